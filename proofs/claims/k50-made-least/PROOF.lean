import PyProof.Rows.All
import Wide.All
import OpenK.AllK
import Wide.FinOn
import HandS.ForMost
import HandS.ForExc
import KE.KDictKeyed
import HandS.CallSlots
import HandS.Rev
import HandS.Zip
import HandS.RevRange
import HandS.Conv
import HandS.IsInst
import HandS.SortInts
import HandS.More
import HandS.Wide
import HandS.Text
import HandS.WordsDict
import HandS.TupAny
import HandS.Small
import HandS.Style
import KE.GoesMore
import PyProof.Draws
import PyProof.EnumMake
import HandS.Exc
import HandS.ExcIs
import HandS.ExcOwn
import HandS.ExcValue
import PyProof.ExcBaseAll.ValueError
import PyProof.ZipIter
import PyProof.ListNew
import HandS.TryOnly
import HandS.Defaults
import HandS.Iter
import KE.SortData
import KE.KDictDisplayH
import HandS.TupMul
import HandS.Deep
import PyProof.LongRange
import HandS.TryMany
import HandS.ExcInit
import HandS.ExcField
import PySem.Challenge.RW_tapeproof_k50_made_least
set_option Elab.async false
set_option linter.all false
set_option maxRecDepth 100000
set_option maxHeartbeats 4000000
namespace VL
open PySem PySem.Spec PyProof.Rows L2

/-- plain data -/
inductive D where
  | non | bl (b : Bool) | int (i : Int) | str (x : Str)
  | lst (xs : List D) | tup (xs : List D) | dct (kvs : List (Key × D)) | obj (C : Addr) (fs : List (Str × D)) | scr (ns : List Int) | exc (C : Addr) | ndc (kvs : List (NestedKey × D)) | exf (C : Addr) (fs : List (Str × D))
/-- a caught exception of the class cls, kept -/
def ExF (cls : Value) (dd : Addr) (a : Addr) : HO := .ext fun h => ∃ (oe : Obj) (vs : Array Value), h.get? a = some oe ∧ Zc cls (some dd) oe ∧ oe.data = .fields vs
def ExK (cls : Value) (a : Addr) : HO := .ext fun h => ∃ (oe : Obj) (vs : Array Value), h.get? a = some oe ∧ Zc cls none oe ∧ oe.data = .fields vs

/-! dicts whose keys are nested tuples of whole numbers -/
mutual
def nkOk : NestedKey → Bool
  | .none => true
  | .num _ => true
  | .text _ => false
  | .tup ks => nkOks ks
def nkOks : List NestedKey → Bool
  | [] => true
  | k :: ks => nkOk k && nkOks ks
end
mutual
def nkHash : NestedKey → Int
  | .none => reduceHash 0xFCA86420
  | .num i => hashInt i
  | .text _ => 0
  | .tup ks => reduceHash (Builtin.Tuple.tupleHashOf (nkHashes ks))
def nkHashes : List NestedKey → List Int
  | [] => []
  | k :: ks => nkHash k :: nkHashes ks
end
mutual
theorem nkHash_eq (w : World) : ∀ k : NestedKey, nkOk k = true → k.hash w = nkHash k
  | .none, _ => by simp [NestedKey.hash, nkHash]
  | .num i, _ => by simp [NestedKey.hash, nkHash]
  | .text _, h => by simp [nkOk] at h
  | .tup ks, h => by
    rw [NestedKey.hash, nkHash, nkHashes_eq w ks (by simpa [nkOk] using h)]
theorem nkHashes_eq (w : World) : ∀ ks : List NestedKey, nkOks ks = true → NestedKey.hashes w ks = nkHashes ks
  | [], _ => by simp [NestedKey.hashes, nkHashes]
  | k :: ks, h => by
    simp only [nkOks, Bool.and_eq_true] at h
    rw [NestedKey.hashes, nkHashes, nkHash_eq w k h.1, nkHashes_eq w ks h.2]
end
def isTup : NestedKey → Bool
  | .tup _ => true
  | _ => false
/-- the data of a key -/
def nkGood (k : NestedKey) : Bool := nkOk k && isTup k && Nat.ble k.depth 8
mutual
def nkD : NestedKey → D
  | .none => .non
  | .num i => .int i
  | .text x => .str x
  | .tup ks => .tup (nkDs ks)
def nkDs : List NestedKey → List D
  | [] => []
  | k :: ks => nkD k :: nkDs ks
end
abbrev NEnt := NestedKey × Addr × V
abbrev NRel (p : NEnt) (q : NestedKey × Addr × Value) : Prop := p.1 = q.1 ∧ p.2.1 = q.2.1 ∧ RelV p.2.2 q.2.2
/-- the object of such a dict: the keys' own tuples stand at the addresses told -/
def NDo (a : Addr) (ep : Nat) (xs : List NEnt) : HO := .ext fun h => xs.length ≤ sizeLine ∧ (a == sysModules) = false ∧ (xs.map (·.1)).Nodup ∧ (∀ x ∈ xs, nkGood x.1 = true) ∧
  ∃ (ys : List (NestedKey × Addr × Value)) (o : Obj) (es : Array DictEntry), Paired NRel xs ys ∧ h.get? a = some o ∧ o.ExactDict ∧ o.data = .dict es ep ∧ es.toList = ys.map fun x => ⟨nkHash x.1, .ref x.2.1, x.2.2⟩

def Ex (H H' : Hp) : Prop := ∀ a o, H a = some o → H' a = some o
theorem Ex.refl (H : Hp) : Ex H H := fun _ _ h => h
theorem Ex.trans {H H1 H2 : Hp} (a : Ex H H1) (b : Ex H1 H2) : Ex H H2 := fun x o h => b x o (a x o h)
theorem Ex.new {H : Hp} {p : Addr} {o : HO} (h : H p = none) : Ex H (upd H p o) := fun a u e => by
  rw [upd_ne (ne_of_none e h)]
  exact e
theorem Ex.rd {H H' : Hp} {a : Addr} {u : HO} (e : Ex H H') (h : Rd H a u) : Rd H' a u := by
  rcases h with h | ⟨o, h⟩
  · exact Or.inl (e a _ h)
  · exact Or.inr ⟨o, e a _ h⟩
theorem Ex.l {K : PySem.W.Frag} {H H' : Hp} {a : Addr} {xs : List V} (e : Ex H H') (h : SqL K H a xs) : SqL K H' a xs := by
  rcases h with h | h
  · exact Or.inl (e.rd h)
  · exact Or.inr h
theorem Ex.t {K : PySem.W.Frag} {H H' : Hp} {a : Addr} {xs : List V} (e : Ex H H') (h : SqT K H a xs) : SqT K H' a xs := by
  rcases h with h | h
  · exact Or.inl (e.rd h)
  · exact Or.inr h
theorem Ex.free {H H' : Hp} {p : Addr} (e : Ex H H') (h : H' p = none) : H p = none := by
  cases h1 : H p with
  | none => rfl
  | some o => rw [e p o h1] at h; cases h

mutual
/-- the value v is the data d, all of it standing in G -/
inductive Dt (K : PySem.W.Frag) (G : Hp) : V → D → Prop
  | non : Dt K G .non .non
  | bl (b : Bool) : Dt K G (.bl b) (.bl b)
  | int (i : Int) : Dt K G (.int i) (.int i)
  | str (x : Str) : Dt K G (.str x) (.str x)
  | lst {a : Addr} {xs : List V} {ds : List D} : G a = some (.lst xs) → DtA K G xs ds → Dt K G (.ref a) (.lst ds)
  | scr {a : Addr} {ns : List Int} : SqL K G a (ns.map V.int) → Dt K G (.ref a) (.scr ns)
  | tup {a : Addr} {xs : List V} {ds : List D} : SqT K G a xs → DtA K G xs ds → Dt K G (.ref a) (.tup ds)
  | dct {a : Addr} {kvs : List (Key × V)} {ds : List (Key × D)} : Rd G a (.dK kvs) → DtK K G kvs ds → Dt K G (.ref a) (.dct ds)
  | exc {a C : Addr} : G a = some (ExK (.ref C) a) → Dt K G (.ref a) (.exc C)
  | exf {a C dd : Addr} {fs : List (Str × V)} {ds : List (Str × D)} : G a = some (ExF (.ref C) dd a) → G dd = some (.xd fs) → DtF K G fs ds → Dt K G (.ref a) (.exf C ds)
  | ndc {a : Addr} {ep : Nat} {kvs : List NEnt} {ds : List (NestedKey × D)} : G a = some (NDo a ep kvs) → DtN K G kvs ds → Dt K G (.ref a) (.ndc ds)
  | obj {a C dx : Addr} {fs : List (Str × V)} {ds : List (Str × D)} : G a = some (.ins C dx fs) → (ds.map (·.1)).Nodup → DtF K G fs ds → Dt K G (.ref a) (.obj C ds)
inductive DtA (K : PySem.W.Frag) (G : Hp) : List V → List D → Prop
  | nil : DtA K G [] []
  | cons {v : V} {d : D} {vs : List V} {ds : List D} : Dt K G v d → DtA K G vs ds → DtA K G (v :: vs) (d :: ds)
inductive DtK (K : PySem.W.Frag) (G : Hp) : List (Key × V) → List (Key × D) → Prop
  | nil : DtK K G [] []
  | cons {k : Key} {v : V} {d : D} {vs : List (Key × V)} {ds : List (Key × D)} : Dt K G v d → DtK K G vs ds → DtK K G ((k, v) :: vs) ((k, d) :: ds)
inductive DtF (K : PySem.W.Frag) (G : Hp) : List (Str × V) → List (Str × D) → Prop
  | nil : DtF K G [] []
  | cons {k : Str} {v : V} {d : D} {vs : List (Str × V)} {ds : List (Str × D)} : Dt K G v d → DtF K G vs ds → DtF K G ((k, v) :: vs) ((k, d) :: ds)
inductive DtN (K : PySem.W.Frag) (G : Hp) : List NEnt → List (NestedKey × D) → Prop
  | nil : DtN K G [] []
  | cons {k : NestedKey} {b : Addr} {v : V} {d : D} {vs : List NEnt} {ds : List (NestedKey × D)} : Dt K G (.ref b) (nkD k) → Dt K G v d → DtN K G vs ds → DtN K G ((k, b, v) :: vs) ((k, d) :: ds)
end
section
variable {K : PySem.W.Frag} {G G' : Hp}
mutual
theorem Dt.mono (e : Ex G G') : ∀ {v : V} {d : D}, Dt K G v d → Dt K G' v d
  | _, _, .non => .non
  | _, _, .bl b => .bl b
  | _, _, .int i => .int i
  | _, _, .str x => .str x
  | _, _, .lst h a => .lst (e _ _ h) (DtA.mono e a)
  | _, _, .scr h => .scr (e.l h)
  | _, _, .exc h => .exc (e _ _ h)
  | _, _, .exf h h2 a => .exf (e _ _ h) (e _ _ h2) (DtF.mono e a)
  | _, _, .ndc h a => .ndc (e _ _ h) (DtN.mono e a)
  | _, _, .tup h a => .tup (e.t h) (DtA.mono e a)
  | _, _, .dct h a => .dct (e.rd h) (DtK.mono e a)
  | _, _, .obj h n a => .obj (e _ _ h) n (DtF.mono e a)
theorem DtA.mono (e : Ex G G') : ∀ {v : List V} {d : List D}, DtA K G v d → DtA K G' v d
  | _, _, .nil => .nil
  | _, _, .cons h t => .cons (Dt.mono e h) (DtA.mono e t)
theorem DtK.mono (e : Ex G G') : ∀ {v : List (Key × V)} {d : List (Key × D)}, DtK K G v d → DtK K G' v d
  | _, _, .nil => .nil
  | _, _, .cons h t => .cons (Dt.mono e h) (DtK.mono e t)
theorem DtF.mono (e : Ex G G') : ∀ {v : List (Str × V)} {d : List (Str × D)}, DtF K G v d → DtF K G' v d
  | _, _, .nil => .nil
  | _, _, .cons h t => .cons (Dt.mono e h) (DtF.mono e t)
theorem DtN.mono (e : Ex G G') : ∀ {v : List NEnt} {d : List (NestedKey × D)}, DtN K G v d → DtN K G' v d
  | _, _, .nil => .nil
  | _, _, .cons h h' t => .cons (Dt.mono e h) (Dt.mono e h') (DtN.mono e t)
end
end

/-! ### owned things -/
/-- how a slot's value is held: F: nobody changes it; L m: a list of the slot's own, its items held so; K: a dict of its own; O: an instance of its own, its fields held so; P m: held as m, and the slot keeps its thing -/
inductive Md where
  | F | L (m : Md) | K | N | M (m : Md) | O (ms : List Md) | P (m : Md) | T (ms : List Md) | A (ms : List Md)
mutual
inductive R (K : PySem.W.Frag) (G H : Hp) : Md → V → D → List Addr → Prop
  | F {v : V} {d : D} : Dt K G v d → R K G H .F v d []
  | L {m : Md} {a : Addr} {xs : List V} {ds : List D} {fp : List Addr} : H a = some (.lst xs) → RA K G H m xs ds fp → R K G H (.L m) (.ref a) (.lst ds) (a :: fp)
  | K {a : Addr} {kvs : List (Key × V)} {ds : List (Key × D)} : H a = some (.dK kvs) → DtK K G kvs ds → R K G H .K (.ref a) (.dct ds) [a]
  | N {a : Addr} {ep : Nat} {kvs : List NEnt} {ds : List (NestedKey × D)} : H a = some (NDo a ep kvs) → DtN K G kvs ds → R K G H .N (.ref a) (.ndc ds) [a]
  | M {m : Md} {a : Addr} {kvs : List (Key × V)} {ds : List (Key × D)} {fp : List Addr} : H a = some (.dK kvs) → RK K G H m kvs ds fp → R K G H (.M m) (.ref a) (.dct ds) (a :: fp)
  | O {ms : List Md} {a C dx : Addr} {fs : List (Str × V)} {ds : List (Str × D)} {fp : List Addr} : H a = some (.ins C dx fs) → (ds.map (·.1)).Nodup → RF K G H ms fs ds fp → R K G H (.O ms) (.ref a) (.obj C ds) (a :: fp)
  | P {m : Md} {v : V} {d : D} {fp : List Addr} : R K G H m v d fp → R K G H (.P m) v d fp
  | T {ms : List Md} {a : Addr} {xs : List V} {ds : List D} {fp : List Addr} : G a = some (.tup xs) → RS K G H ms xs ds fp → R K G H (.T ms) (.ref a) (.tup ds) fp
  | A {ms : List Md} {a : Addr} {xs : List V} {ds : List D} {fp : List Addr} : H a = some (.lst xs) → RS K G H ms xs ds fp → R K G H (.A ms) (.ref a) (.lst ds) (a :: fp)
inductive RA (K : PySem.W.Frag) (G H : Hp) : Md → List V → List D → List Addr → Prop
  | nil {m : Md} : RA K G H m [] [] []
  | cons {m : Md} {v : V} {d : D} {vs : List V} {ds : List D} {fp fq : List Addr} : R K G H m v d fp → RA K G H m vs ds fq → RA K G H m (v :: vs) (d :: ds) (fp ++ fq)
inductive RK (K : PySem.W.Frag) (G H : Hp) : Md → List (Key × V) → List (Key × D) → List Addr → Prop
  | nil {m : Md} : RK K G H m [] [] []
  | cons {m : Md} {k : Key} {v : V} {d : D} {vs : List (Key × V)} {ds : List (Key × D)} {fp fq : List Addr} : R K G H m v d fp → RK K G H m vs ds fq → RK K G H m ((k, v) :: vs) ((k, d) :: ds) (fp ++ fq)
inductive RS (K : PySem.W.Frag) (G H : Hp) : List Md → List V → List D → List Addr → Prop
  | nil : RS K G H [] [] [] []
  | cons {m : Md} {ms : List Md} {v : V} {d : D} {vs : List V} {ds : List D} {fp fq : List Addr} : R K G H m v d fp → RS K G H ms vs ds fq → RS K G H (m :: ms) (v :: vs) (d :: ds) (fp ++ fq)
inductive RF (K : PySem.W.Frag) (G H : Hp) : List Md → List (Str × V) → List (Str × D) → List Addr → Prop
  | nil : RF K G H [] [] [] []
  | cons {m : Md} {ms : List Md} {k : Str} {v : V} {d : D} {vs : List (Str × V)} {ds : List (Str × D)} {fp fq : List Addr} : R K G H m v d fp → RF K G H ms vs ds fq → RF K G H (m :: ms) ((k, v) :: vs) ((k, d) :: ds) (fp ++ fq)
end
section
variable {K : PySem.W.Frag} {G G' H H' : Hp}
mutual
/-- what is held stands where its own addresses and the frozen part stand -/
theorem R.keep (e : Ex G G') : ∀ {m : Md} {v : V} {d : D} {fp : List Addr}, R K G H m v d fp → (∀ a ∈ fp, ∀ o, H a = some o → H' a = some o) → R K G' H' m v d fp
  | _, _, _, _, .F h, _ => .F (h.mono e)
  | _, _, _, _, .L h t, k => .L (k _ List.mem_cons_self _ h) (RA.keep e t fun a ha => k a (List.mem_cons_of_mem _ ha))
  | _, _, _, _, .K h t, k => .K (k _ List.mem_cons_self _ h) (t.mono e)
  | _, _, _, _, .N h t, k => .N (k _ List.mem_cons_self _ h) (t.mono e)
  | _, _, _, _, .M h t, k => .M (k _ List.mem_cons_self _ h) (RK.keep e t fun a ha => k a (List.mem_cons_of_mem _ ha))
  | _, _, _, _, .O h n t, k => .O (k _ List.mem_cons_self _ h) n (RF.keep e t fun a ha => k a (List.mem_cons_of_mem _ ha))
  | _, _, _, _, .P h, k => .P (R.keep e h k)
  | _, _, _, _, .T h t, k => .T (e _ _ h) (RS.keep e t k)
  | _, _, _, _, .A h t, k => .A (k _ List.mem_cons_self _ h) (RS.keep e t fun a ha => k a (List.mem_cons_of_mem _ ha))
theorem RS.keep (e : Ex G G') : ∀ {m : List Md} {v : List V} {d : List D} {fp : List Addr}, RS K G H m v d fp → (∀ a ∈ fp, ∀ o, H a = some o → H' a = some o) → RS K G' H' m v d fp
  | _, _, _, _, .nil, _ => .nil
  | _, _, _, _, .cons h t, k => .cons (R.keep e h fun a ha => k a (List.mem_append_left _ ha)) (RS.keep e t fun a ha => k a (List.mem_append_right _ ha))
theorem RA.keep (e : Ex G G') : ∀ {m : Md} {v : List V} {d : List D} {fp : List Addr}, RA K G H m v d fp → (∀ a ∈ fp, ∀ o, H a = some o → H' a = some o) → RA K G' H' m v d fp
  | _, _, _, _, .nil, _ => .nil
  | _, _, _, _, .cons h t, k => .cons (R.keep e h fun a ha => k a (List.mem_append_left _ ha)) (RA.keep e t fun a ha => k a (List.mem_append_right _ ha))
theorem RK.keep (e : Ex G G') : ∀ {m : Md} {v : List (Key × V)} {d : List (Key × D)} {fp : List Addr}, RK K G H m v d fp → (∀ a ∈ fp, ∀ o, H a = some o → H' a = some o) → RK K G' H' m v d fp
  | _, _, _, _, .nil, _ => .nil
  | _, _, _, _, .cons h t, k => .cons (R.keep e h fun a ha => k a (List.mem_append_left _ ha)) (RK.keep e t fun a ha => k a (List.mem_append_right _ ha))
theorem RF.keep (e : Ex G G') : ∀ {m : List Md} {v : List (Str × V)} {d : List (Str × D)} {fp : List Addr}, RF K G H m v d fp → (∀ a ∈ fp, ∀ o, H a = some o → H' a = some o) → RF K G' H' m v d fp
  | _, _, _, _, .nil, _ => .nil
  | _, _, _, _, .cons h t, k => .cons (R.keep e h fun a ha => k a (List.mem_append_left _ ha)) (RF.keep e t fun a ha => k a (List.mem_append_right _ ha))
end
mutual
/-- an owned address is tracked -/
theorem R.has : ∀ {m : Md} {v : V} {d : D} {fp : List Addr}, R K G H m v d fp → ∀ a ∈ fp, H a ≠ none
  | _, _, _, _, .F _, _, h => nomatch h
  | _, _, _, _, .L h t, a, ha => by
    rcases List.mem_cons.mp ha with rfl | ha
    · rw [h]; exact fun z => nomatch z
    · exact RA.has t a ha
  | _, _, _, _, .K h t, a, ha => by
    rcases List.mem_cons.mp ha with rfl | ha
    · rw [h]; exact fun z => nomatch z
    · exact nomatch ha
  | _, _, _, _, .N h t, a, ha => by
    rcases List.mem_cons.mp ha with rfl | ha
    · rw [h]; exact fun z => nomatch z
    · exact nomatch ha
  | _, _, _, _, .M h t, a, ha => by
    rcases List.mem_cons.mp ha with rfl | ha
    · rw [h]; exact fun z => nomatch z
    · exact RK.has t a ha
  | _, _, _, _, .O h n t, a, ha => by
    rcases List.mem_cons.mp ha with rfl | ha
    · rw [h]; exact fun z => nomatch z
    · exact RF.has t a ha
  | _, _, _, _, .P h, a, ha => R.has h a ha
  | _, _, _, _, .T _ t, a, ha => RS.has t a ha
  | _, _, _, _, .A h t, a, ha => by
    rcases List.mem_cons.mp ha with rfl | ha
    · rw [h]; exact fun z => nomatch z
    · exact RS.has t a ha
theorem RS.has : ∀ {m : List Md} {v : List V} {d : List D} {fp : List Addr}, RS K G H m v d fp → ∀ a ∈ fp, H a ≠ none
  | _, _, _, _, .nil, _, h => nomatch h
  | _, _, _, _, .cons h t, a, ha => (List.mem_append.mp ha).elim (R.has h a) (RS.has t a)
theorem RA.has : ∀ {m : Md} {v : List V} {d : List D} {fp : List Addr}, RA K G H m v d fp → ∀ a ∈ fp, H a ≠ none
  | _, _, _, _, .nil, _, h => nomatch h
  | _, _, _, _, .cons h t, a, ha => (List.mem_append.mp ha).elim (R.has h a) (RA.has t a)
theorem RK.has : ∀ {m : Md} {v : List (Key × V)} {d : List (Key × D)} {fp : List Addr}, RK K G H m v d fp → ∀ a ∈ fp, H a ≠ none
  | _, _, _, _, .nil, _, h => nomatch h
  | _, _, _, _, .cons h t, a, ha => (List.mem_append.mp ha).elim (R.has h a) (RK.has t a)
theorem RF.has : ∀ {m : List Md} {v : List (Str × V)} {d : List (Str × D)} {fp : List Addr}, RF K G H m v d fp → ∀ a ∈ fp, H a ≠ none
  | _, _, _, _, .nil, _, h => nomatch h
  | _, _, _, _, .cons h t, a, ha => (List.mem_append.mp ha).elim (R.has h a) (RF.has t a)
end
mutual
/-- what is held may be read as plain data of any heap that holds both -/
theorem R.dt (e : Ex G G') : ∀ {m : Md} {v : V} {d : D} {fp : List Addr}, R K G H m v d fp → (∀ a ∈ fp, ∀ o, H a = some o → G' a = some o) → Dt K G' v d
  | _, _, _, _, .F h, _ => h.mono e
  | _, _, _, _, .L h t, k => .lst (k _ List.mem_cons_self _ h) (RA.dt e t fun a ha => k a (List.mem_cons_of_mem _ ha))
  | _, _, _, _, .K h t, k => .dct (.inl (k _ List.mem_cons_self _ h)) (t.mono e)
  | _, _, _, _, .N h t, k => .ndc (k _ List.mem_cons_self _ h) (t.mono e)
  | _, _, _, _, .M h t, k => .dct (.inl (k _ List.mem_cons_self _ h)) (RK.dt e t fun a ha => k a (List.mem_cons_of_mem _ ha))
  | _, _, _, _, .O h n t, k => .obj (k _ List.mem_cons_self _ h) n (RF.dt e t fun a ha => k a (List.mem_cons_of_mem _ ha))
  | _, _, _, _, .P h, k => R.dt e h k
  | _, _, _, _, .T h t, k => .tup (.inl (.inl (e _ _ h))) (RS.dt e t k)
  | _, _, _, _, .A h t, k => .lst (k _ List.mem_cons_self _ h) (RS.dt e t fun a ha => k a (List.mem_cons_of_mem _ ha))
theorem RS.dt (e : Ex G G') : ∀ {m : List Md} {v : List V} {d : List D} {fp : List Addr}, RS K G H m v d fp → (∀ a ∈ fp, ∀ o, H a = some o → G' a = some o) → DtA K G' v d
  | _, _, _, _, .nil, _ => .nil
  | _, _, _, _, .cons h t, k => .cons (R.dt e h fun a ha => k a (List.mem_append_left _ ha)) (RS.dt e t fun a ha => k a (List.mem_append_right _ ha))
theorem RA.dt (e : Ex G G') : ∀ {m : Md} {v : List V} {d : List D} {fp : List Addr}, RA K G H m v d fp → (∀ a ∈ fp, ∀ o, H a = some o → G' a = some o) → DtA K G' v d
  | _, _, _, _, .nil, _ => .nil
  | _, _, _, _, .cons h t, k => .cons (R.dt e h fun a ha => k a (List.mem_append_left _ ha)) (RA.dt e t fun a ha => k a (List.mem_append_right _ ha))
theorem RK.dt (e : Ex G G') : ∀ {m : Md} {v : List (Key × V)} {d : List (Key × D)} {fp : List Addr}, RK K G H m v d fp → (∀ a ∈ fp, ∀ o, H a = some o → G' a = some o) → DtK K G' v d
  | _, _, _, _, .nil, _ => .nil
  | _, _, _, _, .cons h t, k => .cons (R.dt e h fun a ha => k a (List.mem_append_left _ ha)) (RK.dt e t fun a ha => k a (List.mem_append_right _ ha))
theorem RF.dt (e : Ex G G') : ∀ {m : List Md} {v : List (Str × V)} {d : List (Str × D)} {fp : List Addr}, RF K G H m v d fp → (∀ a ∈ fp, ∀ o, H a = some o → G' a = some o) → DtF K G' v d
  | _, _, _, _, .nil, _ => .nil
  | _, _, _, _, .cons h t, k => .cons (R.dt e h fun a ha => k a (List.mem_append_left _ ha)) (RF.dt e t fun a ha => k a (List.mem_append_right _ ha))
end
end

/-! ### the state -/
abbrev Rho := List (Option (Md × D))
abbrev Own := Nat → List Addr
def Ow (f : Own) (a : Addr) : Prop := ∃ i, a ∈ f i
def Own.set (f : Own) (i : Nat) (l : List Addr) : Own := fun j => if j = i then l else f j
theorem Own.set_same {f : Own} {i : Nat} {l : List Addr} : f.set i l i = l := if_pos rfl
theorem Own.set_ne {f : Own} {i j : Nat} {l : List Addr} (h : j ≠ i) : f.set i l j = f j := if_neg h
/-- the slots σ of the heap H are the data ρ, G the frozen part, f the owned addresses -/
structure Sx (K : PySem.W.Frag) (pin : Nat → Option V) (G H : Hp) (σ : L2.St) (ρ : Rho) (f : Own) : Prop where
  ext : Ex G H
  len : ρ.length = σ.length
  slot : ∀ i m d, ρ[i]? = some (some (m, d)) → ∃ v, σ[i]? = some (some v) ∧ R K G H m v d (f i)
  emp : ∀ i, (∀ m d, ρ[i]? ≠ some (some (m, d))) → f i = []
  nd : ∀ i, (f i).Nodup
  dj : ∀ i j a, a ∈ f i → a ∈ f j → i = j
  out : ∀ i, ∀ a ∈ f i, G a = none
  pins : ∀ i m d, ρ[i]? = some (some (.P m, d)) → ∃ v, pin i = some v ∧ σ[i]? = some (some v)
/-- from one state to a later one -/
structure Stp (G H : Hp) (f : Own) (G' H' : Hp) (f' : Own) : Prop where
  gext : Ex G G'
  keep : ∀ a o, H a = some o → ¬ Ow f a → H' a = some o
  gold : ∀ a, H a ≠ none → ¬ Ow f a → G' a = G a
  fnew : ∀ a, Ow f' a → Ow f a ∨ H a = none
  trk : ∀ a, H a ≠ none → H' a ≠ none
theorem Stp.refl (G H : Hp) (f : Own) : Stp G H f G H f := ⟨Ex.refl _, fun _ _ h _ => h, fun _ _ _ => rfl, fun _ h => .inl h, fun _ h => h⟩
theorem Stp.trans {G H G1 H1 G2 H2 : Hp} {f f1 f2 : Own} (a : Stp G H f G1 H1 f1) (b : Stp G1 H1 f1 G2 H2 f2) : Stp G H f G2 H2 f2 := by
  have n1 : ∀ x, H x ≠ none → ¬ Ow f x → ¬ Ow f1 x := fun x hx hf h1 => by
    rcases a.fnew x h1 with h | h
    · exact hf h
    · exact hx h
  refine ⟨a.gext.trans b.gext, fun x o h hf => ?_, fun x h hf => ?_, fun x h => ?_, fun x h => b.trk x (a.trk x h)⟩
  · exact b.keep x o (a.keep x o h hf) (n1 x (by rw [h]; exact fun z => nomatch z) hf)
  · cases e : H x with
    | none => exact absurd e h
    | some o =>
      have e1 := a.keep x o e hf
      rw [b.gold x (by rw [e1]; exact fun z => nomatch z) (n1 x h hf), a.gold x h hf]
  · rcases b.fnew x h with h1 | h1
    · exact a.fnew x h1
    · by_cases hf : Ow f x
      · exact .inl hf
      · refine .inr ?_
        cases e : H x with
        | none => rfl
        | some o => rw [a.keep x o e hf] at h1; cases h1
/-! ### paths within owned things -/
/-- the value reached by a path: items of lists, fields of instances -/
inductive Rch (H : Hp) : V → List Nat → V → Prop
  | here {v : V} : Rch H v [] v
  | lst {a : Addr} {xs : List V} {j : Nat} {x v : V} {p : List Nat} : H a = some (.lst xs) → xs[j]? = some x → Rch H x p v → Rch H (.ref a) (j :: p) v
  | ins {a C dx : Addr} {fs : List (Str × V)} {j : Nat} {k : Str} {x v : V} {p : List Nat} : H a = some (.ins C dx fs) → fs[j]? = some (k, x) → Rch H x p v → Rch H (.ref a) (j :: p) v
  | tup {a : Addr} {xs : List V} {j : Nat} {x v : V} {p : List Nat} : H a = some (.tup xs) → xs[j]? = some x → Rch H x p v → Rch H (.ref a) (j :: p) v
  | dK {a : Addr} {kvs : List (Key × V)} {j : Nat} {k : Key} {x v : V} {p : List Nat} : H a = some (.dK kvs) → kvs[j]? = some (k, x) → Rch H x p v → Rch H (.ref a) (j :: p) v
def mKid : Md → Nat → Option Md
  | .L m, _ => some m
  | .M m, _ => some m
  | .O ms, j => ms[j]?
  | .T ms, j => ms[j]?
  | .A ms, j => ms[j]?
  | _, _ => none
def Md.st : Md → Md
  | .P m => m.st
  | m => m
def mAt : Md → List Nat → Option Md
  | m, [] => some m
  | m, j :: p => match mKid m j with
    | some m' => mAt m' p
    | none => none
def dKid : D → Nat → Option D
  | .lst ds, j => ds[j]?
  | .tup ds, j => ds[j]?
  | .obj _ fs, j => match fs[j]? with
    | some x => some x.2
    | none => none
  | .dct fs, j => match fs[j]? with
    | some x => some x.2
    | none => none
  | _, _ => none
def dAt : D → List Nat → Option D
  | d, [] => some d
  | d, j :: p => match dKid d j with
    | some d' => dAt d' p
    | none => none
def setKid : D → Nat → D → D
  | .lst ds, j, x => .lst (ds.set j x)
  | .tup ds, j, x => .tup (ds.set j x)
  | .obj C fs, j, x => .obj C (fs.modify j fun y => (y.1, x))
  | .dct fs, j, x => .dct (fs.modify j fun y => (y.1, x))
  | d, _, _ => d
def dSet : D → List Nat → D → D
  | _, [], x => x
  | d, j :: p, x => match dKid d j with
    | some d' => setKid d j (dSet d' p x)
    | none => d
/-- what an expression's value is: fz: frozen; bor i p m: what slot i holds at p; new m: nobody else's -/
inductive Kd where
  | fz | bor (i : Nat) (p : List Nat) (m : Md) | new (m : Md)
/-- a state -/
structure Sta where
  pin : Nat → Option V
  G : Hp
  H : Hp
  σ : L2.St
  ρ : Rho
  f : Own
abbrev Sta.ok (K : PySem.W.Frag) (S : Sta) : Prop := Sx K S.pin S.G S.H S.σ S.ρ S.f
structure Sta.to (S T : Sta) : Prop where
  stp : Stp S.G S.H S.f T.G T.H T.f
  pin : T.pin = S.pin
/-- new since S0, or owned there -/
def Nw (S0 : Sta) (a : Addr) : Prop := Ow S0.f a ∨ S0.H a = none
def Has (K : PySem.W.Frag) (S0 S : Sta) : Kd → V → D → Prop
  | .fz, v, d => Dt K S.G v d
  | .bor i p m, v, d => ∃ m0 d0 v0, S.ρ[i]? = some (some (m0, d0)) ∧ S.σ[i]? = some (some v0) ∧ Rch S.H v0 p v ∧ mAt m0.st p = some m ∧ dAt d0 p = some d
  | .new m, v, d => ∃ fp, R K S.G S.H m v d fp ∧ fp.Nodup ∧ ∀ a ∈ fp, S.G a = none ∧ ¬ Ow S.f a ∧ Nw S0 a
inductive HasA (K : PySem.W.Frag) (S0 S : Sta) : List V → List (Kd × D) → Prop
  | nil : HasA K S0 S [] []
  | cons {v : V} {kd : Kd} {d : D} {vs : List V} {ds : List (Kd × D)} : Has K S0 S kd v d → HasA K S0 S vs ds → HasA K S0 S (v :: vs) ((kd, d) :: ds)
/-- what is wanted behind -/
structure Po (α : Type) where
  ok : List Nat → α → Rho → Prop
  ex : Addr → List (Str × D) → Rho → Prop
/-- an exception's dict -/
def XD (K : PySem.W.Frag) (G H : Hp) (dd : Option Addr) (fl : List (Str × D)) : Prop :=
  (fl = [] ∧ dd = none) ∨ ∃ a fs, fl ≠ [] ∧ dd = some a ∧ G a = some (.xd fs) ∧ DtF K G fs fl
abbrev DE (α : Type) := Rho → Po α → Prop
abbrev Rl (τ α : Type) := PySem.W.Frag → Sta → Sta → τ → α → Prop
/-- the slots but those at p are as they were -/
def Tch (p : List Nat) (S T : Sta) : Prop := ∀ i, i ∉ p → T.ρ[i]? = S.ρ[i]? ∧ T.f i = S.f i ∧ ∀ a ∈ S.f i, ∀ o, S.H a = some o → T.H a = some o
/-- a reading by data -/
def tgen {τ α : Type} (L : Rl τ α) (K : PySem.W.Frag) (W : WX) (w : DE α) : L2.St → Hp → (τ → Hp → Prop) → Prop := fun σ H Q =>
  ∃ (S : Sta) (P : Po α), S.σ = σ ∧ S.H = H ∧ S.ok K ∧ w S.ρ P ∧
    (∀ p x (T : Sta), P.ok p x T.ρ → T.σ = σ → T.ok K → S.to T → Tch p S T → ∀ v : τ, L K S T v x → Q v T.H) ∧
    (∀ C fl (T : Sta), P.ex C fl T.ρ → T.σ = σ → T.ok K → S.to T → ∀ dd : Option Addr, XD K T.G T.H dd fl → W (.ref C) dd σ T.H)
abbrev lE : Rl V (Kd × D) := fun K S0 S v x => Has K S0 S x.1 v x.2
abbrev lT : Rl Bool Bool := fun _ _ _ b c => b = c
abbrev lA : Rl (List V) (List (Kd × D)) := fun K S0 S vs xs => HasA K S0 S vs xs
abbrev lO : Rl (Option Int) (Option Int) := fun _ _ _ b c => b = c
abbrev te : PySem.W.Frag → WX → DE (Kd × D) → TE := tgen lE
abbrev tt : PySem.W.Frag → WX → DE Bool → TT := tgen lT
abbrev ta : PySem.W.Frag → WX → DE (List (Kd × D)) → TA := tgen lA
abbrev tO : PySem.W.Frag → WX → DE (Option Int) → TO := tgen lO
/-- what is wanted behind a statement -/
structure En where
  nx : Rho → Prop
  rt : Kd × D → Rho → Prop
  bk : Rho → Prop
  ct : Rho → Prop
  ex : Addr → List (Str × D) → Rho → Prop
abbrev DS := En → Rho → Prop
/-- the wishes E lead to the ends D -/
structure Lead (K : PySem.W.Frag) (W : WX) (S : Sta) (E : En) (D : Ends) : Prop where
  nx : ∀ T : Sta, E.nx T.ρ → T.ok K → S.to T → D.nx T.σ T.H
  bk : ∀ T : Sta, E.bk T.ρ → T.ok K → S.to T → D.bk T.σ T.H
  ct : ∀ T : Sta, E.ct T.ρ → T.ok K → S.to T → D.ct T.σ T.H
  rt : ∀ x (T : Sta), E.rt x T.ρ → T.ok K → S.to T → ∀ v : V, Has K S T x.1 v x.2 → D.rt v T.H
  ex : ∀ C fl (T : Sta), E.ex C fl T.ρ → T.ok K → S.to T → ∀ dd : Option Addr, XD K T.G T.H dd fl → W (.ref C) dd T.σ T.H
def ts (K : PySem.W.Frag) (W : WX) (w : DS) : TS := fun D σ H =>
  ∃ (S : Sta) (E : En), S.σ = σ ∧ S.H = H ∧ S.ok K ∧ w E S.ρ ∧ Lead K W S E D
end VL

namespace VL
open PySem PySem.Spec PyProof.Rows L2
section
variable {K : PySem.W.Frag} {W : WX} {G G' H H' H0 : Hp} {σ : L2.St} {ρ : Rho} {f f' : Own} {P : Program} {w : World} {X : Cx} {S S0 S1 T T1 T2 : Sta}

theorem PE.imp {e : Expr} {t t' : TE} (h : PE X e t) (k : ∀ σ H Q, t' σ H Q → t σ H Q) : PE X e t' := ⟨fun pins s σ H Q I q => h.run pins s σ H Q I (k σ H Q q)⟩
theorem PT.imp {e : Expr} {t t' : TT} (h : PT X e t) (k : ∀ σ H Q, t' σ H Q → t σ H Q) : PT X e t' := ⟨fun pins s σ H Q I q => h.run pins s σ H Q I (k σ H Q q)⟩
theorem PW.imp {e : Expr} {t t' : TT} (h : PW X e t) (k : ∀ σ H Q, t' σ H Q → t σ H Q) : PW X e t' := ⟨fun wh pins s σ H Q I q => h.run wh pins s σ H Q I (k σ H Q q)⟩
theorem PA.imp {e : List Expr} {t t' : TA} (h : PA X e t) (k : ∀ σ H Q, t' σ H Q → t σ H Q) : PA X e t' := ⟨fun pos pins s σ H Q I q => h.run pos pins s σ H Q I (k σ H Q q)⟩
theorem PS.imp {e : Stmt} {t t' : TS} (h : PS X e t) (k : ∀ D σ H, t' D σ H → t D σ H) : PS X e t' := ⟨fun pins s σ H D I q => h.run pins s σ H D I (k D σ H q)⟩
theorem PSs.imp {e : List Stmt} {t t' : TS} (h : PSs X e t) (k : ∀ D σ H, t' D σ H → t D σ H) : PSs X e t' := ⟨fun pins s σ H D I q => h.run pins s σ H D I (k D σ H q)⟩
theorem PO.imp {e : Option Expr} {t t' : TO} (h : PO X e t) (k : ∀ σ H Q, t' σ H Q → t σ H Q) : PO X e t' := ⟨fun pins s σ H Q I q => h.run pins s σ H Q I (k σ H Q q)⟩

theorem Sta.refl (S : Sta) : S.to S := ⟨Stp.refl _ _ _, rfl⟩
theorem Sta.to.trans (a : S.to S1) (b : S1.to T) : S.to T := ⟨a.stp.trans b.stp, b.pin.trans a.pin⟩
theorem Tch.refl (S : Sta) (p : List Nat) : Tch p S S := fun _ _ => ⟨rfl, rfl, fun _ _ _ h => h⟩
theorem Tch.trans {p q : List Nat} (a : Tch p S S1) (b : Tch q S1 T) : Tch (p ++ q) S T := fun i hi => by
  obtain ⟨a1, a2, a3⟩ := a i fun h => hi (List.mem_append_left _ h)
  obtain ⟨b1, b2, b3⟩ := b i fun h => hi (List.mem_append_right _ h)
  exact ⟨b1.trans a1, b2.trans a2, fun x hx o ho => b3 x (by rw [a2]; exact hx) o (a3 x hx o ho)⟩
theorem Tch.add {p : List Nat} (a : Tch p S S1) (b : Tch [] S1 T) : Tch p S T := by
  have h := a.trans b
  rw [List.append_nil] at h
  exact h
/-- the heap grows by new things alone -/
structure Grow (G H G' H' : Hp) : Prop where
  gext : Ex G G'
  hext : Ex H H'
  sub : Ex G' H'
  gold : ∀ a, H a ≠ none → G' a = G a
theorem Grow.refl (e : Ex G H) : Grow G H G H := ⟨Ex.refl _, Ex.refl _, e, fun _ _ => rfl⟩
theorem Grow.trans {G1 H1 G2 H2 : Hp} (a : Grow G H G1 H1) (b : Grow G1 H1 G2 H2) : Grow G H G2 H2 := ⟨a.gext.trans b.gext, a.hext.trans b.hext, b.sub, fun x h => by
  cases e : H x with
  | none => exact absurd e h
  | some o => rw [b.gold x (by rw [a.hext x o e]; exact fun z => nomatch z), a.gold x h]⟩
theorem Ex.trk (e : Ex H H') {a : Addr} (h : H a ≠ none) : H' a ≠ none := by
  cases q : H a with
  | none => exact absurd q h
  | some o => rw [e a o q]; exact fun z => nomatch z
/-- a new thing that nobody changes -/
theorem Grow.new {p : Addr} {o : HO} (e : Ex G H) (h : H p = none) : Grow G H (upd G p o) (upd H p o) where
  gext := Ex.new (e.free h)
  hext := Ex.new h
  sub := fun a u q => by
    by_cases c : a = p
    · subst c; rw [upd_same] at q ⊢; exact q
    · rw [upd_ne c] at q ⊢; exact e a u q
  gold := fun a q => upd_ne fun c => q (c ▸ h)
/-- a new thing of one's own -/
theorem Grow.own {p : Addr} {o : HO} (e : Ex G H) (h : H p = none) : Grow G H G (upd H p o) := ⟨Ex.refl _, Ex.new h, e.trans (Ex.new h), fun _ _ => rfl⟩
variable {pin : Nat → Option V}
theorem Sx.own (S : Sx K pin G H σ ρ f) {a : Addr} (h : Ow f a) : H a ≠ none := by
  obtain ⟨i, hi⟩ := h
  cases e : ρ[i]? with
  | none => rw [S.emp i (by rw [e]; exact fun _ _ z => nomatch z)] at hi; cases hi
  | some x =>
    cases x with
    | none => rw [S.emp i (by rw [e]; exact fun _ _ z => nomatch z)] at hi; cases hi
    | some md =>
      obtain ⟨v, _, r⟩ := S.slot i md.1 md.2 e
      exact r.has a hi
theorem Sx.outO (S : Sx K pin G H σ ρ f) {a : Addr} (h : Ow f a) : G a = none := by
  obtain ⟨i, hi⟩ := h
  exact S.out i a hi
/-- the state over other heaps -/
def Sta.at (S : Sta) (G H : Hp) : Sta := { S with G := G, H := H }
theorem Sx.grow (S : Sx K pin G H σ ρ f) (g : Grow G H G' H') : Sx K pin G' H' σ ρ f where
  pins := S.pins
  ext := g.sub
  len := S.len
  slot := fun i m d e => by
    obtain ⟨v, h1, r⟩ := S.slot i m d e
    exact ⟨v, h1, r.keep g.gext fun a _ o h => g.hext a o h⟩
  emp := S.emp
  nd := S.nd
  dj := S.dj
  out := fun i a h => by
    rw [g.gold a (S.own ⟨i, h⟩)]
    exact S.out i a h
theorem Grow.stp (g : Grow G H G' H') : Stp G H f G' H' f := ⟨g.gext, fun a o h _ => g.hext a o h, fun a h _ => g.gold a h, fun _ h => .inl h, fun _ h => g.hext.trk h⟩
theorem Grow.to (g : Grow S.G S.H G' H') : S.to (S.at G' H') := ⟨g.stp, rfl⟩
theorem Grow.tch (g : Grow S.G S.H G' H') : Tch [] S (S.at G' H') := fun _ _ => ⟨rfl, rfl, fun a _ o h => g.hext a o h⟩
theorem Sta.grow (ok : S.ok K) (g : Grow S.G S.H G' H') : (S.at G' H').ok K := Sx.grow ok g
theorem Rch.mono (e : Ex H H') : ∀ {v : V} {p : List Nat} {v' : V}, Rch H v p v' → Rch H' v p v'
  | _, _, _, .here => .here
  | _, _, _, .lst h i t => .lst (e _ _ h) i (Rch.mono e t)
  | _, _, _, .ins h i t => .ins (e _ _ h) i (Rch.mono e t)
  | _, _, _, .tup h i t => .tup (e _ _ h) i (Rch.mono e t)
  | _, _, _, .dK h i t => .dK (e _ _ h) i (Rch.mono e t)

/-- a value keeps its kind through a later step -/
def hold : Kd → List Nat → Bool
  | .bor i _ _, p => !p.contains i
  | _, _ => true
theorem RA.get {m : Md} : ∀ {xs : List V} {ds : List D} {fp : List Addr} {j : Nat} {x : V} {d : D}, RA K G H m xs ds fp → xs[j]? = some x → ds[j]? = some d → ∃ fq, R K G H m x d fq ∧ ∀ a ∈ fq, a ∈ fp
  | _, _, _, _, _, _, .nil, h, _ => by simp at h
  | _, _, _, 0, _, _, .cons r t, h, h' => by
    simp at h h'; subst h; subst h'
    exact ⟨_, r, fun a ha => List.mem_append_left _ ha⟩
  | _, _, _, j + 1, _, _, .cons r t, h, h' => by
    obtain ⟨fq, r', k⟩ := RA.get t (j := j) (by simpa using h) (by simpa using h')
    exact ⟨fq, r', fun a ha => List.mem_append_right _ (k a ha)⟩
theorem RS.get : ∀ {ms : List Md} {xs : List V} {ds : List D} {fp : List Addr} {j : Nat} {m : Md} {x : V} {d : D}, RS K G H ms xs ds fp → ms[j]? = some m → xs[j]? = some x → ds[j]? = some d → ∃ fq, R K G H m x d fq ∧ ∀ a ∈ fq, a ∈ fp
  | _, _, _, _, _, _, _, _, .nil, h, _, _ => by simp at h
  | _, _, _, _, 0, _, _, _, .cons r t, h0, h, h' => by
    simp at h0 h h'
    subst h0; subst h; subst h'
    exact ⟨_, r, fun a ha => List.mem_append_left _ ha⟩
  | _, _, _, _, j + 1, _, _, _, .cons r t, h0, h, h' => by
    obtain ⟨fq, r', k⟩ := RS.get t (j := j) (by simpa using h0) (by simpa using h) (by simpa using h')
    exact ⟨fq, r', fun a ha => List.mem_append_right _ (k a ha)⟩
theorem RK.get {m : Md} : ∀ {xs : List (Key × V)} {ds : List (Key × D)} {fp : List Addr} {j : Nat} {k k' : Key} {x : V} {d : D}, RK K G H m xs ds fp → xs[j]? = some (k, x) → ds[j]? = some (k', d) → k = k' ∧ ∃ fq, R K G H m x d fq ∧ ∀ a ∈ fq, a ∈ fp
  | _, _, _, _, _, _, _, _, .nil, h, _ => by simp at h
  | _, _, _, 0, _, _, _, _, .cons r t, h, h' => by
    simp at h h'
    obtain ⟨rfl, rfl⟩ := h
    obtain ⟨rfl, rfl⟩ := h'
    exact ⟨rfl, _, r, fun a ha => List.mem_append_left _ ha⟩
  | _, _, _, j + 1, _, _, _, _, .cons r t, h, h' => by
    obtain ⟨e, fq, r', k⟩ := RK.get t (j := j) (by simpa using h) (by simpa using h')
    exact ⟨e, fq, r', fun a ha => List.mem_append_right _ (k a ha)⟩
theorem RF.get : ∀ {ms : List Md} {xs : List (Str × V)} {ds : List (Str × D)} {fp : List Addr} {j : Nat} {m : Md} {k k' : Str} {x : V} {d : D}, RF K G H ms xs ds fp → ms[j]? = some m → xs[j]? = some (k, x) → ds[j]? = some (k', d) → k = k' ∧ ∃ fq, R K G H m x d fq ∧ ∀ a ∈ fq, a ∈ fp
  | _, _, _, _, _, _, _, _, _, _, .nil, h, _, _ => by simp at h
  | _, _, _, _, 0, _, _, _, _, _, .cons r t, h0, h, h' => by
    simp at h0 h h'
    obtain ⟨rfl, rfl⟩ := h
    obtain ⟨rfl, rfl⟩ := h'
    subst h0
    exact ⟨rfl, _, r, fun a ha => List.mem_append_left _ ha⟩
  | _, _, _, _, j + 1, _, _, _, _, _, .cons r t, h0, h, h' => by
    obtain ⟨e, fq, r', k⟩ := RF.get t (j := j) (by simpa using h0) (by simpa using h) (by simpa using h')
    exact ⟨e, fq, r', fun a ha => List.mem_append_right _ (k a ha)⟩
theorem R.strip : ∀ {m : Md} {v : V} {d : D} {fp : List Addr}, R K G H m v d fp → R K G H m.st v d fp
  | .F, _, _, _, h => h
  | .L _, _, _, _, h => h
  | .K, _, _, _, h => h
  | .N, _, _, _, h => h
  | .M _, _, _, _, h => h
  | .O _, _, _, _, h => h
  | .T _, _, _, _, h => h
  | .A _, _, _, _, h => h
  | .P m, _, _, _, h => by
    cases h with
    | P h => exact R.strip (m := m) h
/-- what a path leads to is held so, and stays where the slot's things stay -/
theorem R.reach : ∀ (xt : Ex G H) {p : List Nat} {m0 m : Md} {v0 v : V} {d0 d : D} {fp : List Addr}, R K G H m0 v0 d0 fp → Rch H v0 p v → mAt m0 p = some m → dAt d0 p = some d →
    (∃ fq, R K G H m v d fq ∧ ∀ a ∈ fq, a ∈ fp) ∧ ∀ H' : Hp, (∀ a ∈ fp, ∀ o, H a = some o → H' a = some o) → Ex G H' → Rch H' v0 p v
  | xt, [], _, _, _, _, _, _, _, r, c, e1, e2 => by
    cases c
    cases e1; cases e2
    exact ⟨⟨_, r, fun _ h => h⟩, fun _ _ _ => .here⟩
  | xt, j :: p, m0, m, v0, v, d0, d, fp, r, c, e1, e2 => by
    cases c with
    | lst h i t =>
      cases r with
      | F h => simp [mAt, mKid] at e1
      | P h => simp [mAt, mKid] at e1
      | K h t => rename_i h' _ _ _; rw [h] at h'; cases h'
      | N h' t' => rw [h] at h'; cases h'
      | M h' t' => rw [h] at h'; cases h'
      | O h' n' t' => rw [h] at h'; cases h'
      | T h' t' => have h' := xt _ _ h'; rw [h] at h'; cases h'
      | A h' t' =>
        rw [h] at h'; cases h'
        simp only [mAt, mKid] at e1
        simp only [dAt, dKid] at e2
        split at e1
        · rename_i m1 em
          split at e2
          · rename_i d1 ed
            obtain ⟨fq, r1, k1⟩ := RS.get t' em i ed
            obtain ⟨⟨fr, r2, k2⟩, k3⟩ := R.reach xt r1 t e1 e2
            exact ⟨⟨fr, r2, fun a ha => List.mem_cons_of_mem _ (k1 a (k2 a ha))⟩, fun H' k x => .lst (k _ List.mem_cons_self _ h) i (k3 H' (fun a ha => k a (List.mem_cons_of_mem _ (k1 a ha))) x)⟩
          · cases e2
        · cases e1
      | L h' t' =>
        rw [h] at h'; cases h'
        simp only [mAt, mKid] at e1
        simp only [dAt, dKid] at e2
        split at e2
        · rename_i d1 ed
          obtain ⟨fq, r1, k1⟩ := RA.get t' i ed
          obtain ⟨⟨fr, r2, k2⟩, k3⟩ := R.reach xt r1 t e1 e2
          exact ⟨⟨fr, r2, fun a ha => List.mem_cons_of_mem _ (k1 a (k2 a ha))⟩, fun H' k x => .lst (k _ List.mem_cons_self _ h) i (k3 H' (fun a ha => k a (List.mem_cons_of_mem _ (k1 a ha))) x)⟩
        · cases e2
    | ins h i t =>
      cases r with
      | F h => simp [mAt, mKid] at e1
      | P h => simp [mAt, mKid] at e1
      | K h t => rename_i h' _ _ _; rw [h] at h'; cases h'
      | N h' t' => rw [h] at h'; cases h'
      | M h' t' => rw [h] at h'; cases h'
      | L h' t' => rw [h] at h'; cases h'
      | T h' t' => have h' := xt _ _ h'; rw [h] at h'; cases h'
      | A h' t' => rw [h] at h'; cases h'
      | O h' n' t' =>
        rw [h] at h'; cases h'
        simp only [mAt, mKid] at e1
        simp only [dAt, dKid] at e2
        split at e1
        · rename_i m1 em
          split at e2
          · rename_i d1 ed
            split at ed
            · rename_i y ey
              cases ed
              obtain ⟨_, fq, r1, k1⟩ := RF.get t' em i ey
              obtain ⟨⟨fr, r2, k2⟩, k3⟩ := R.reach xt r1 t e1 e2
              exact ⟨⟨fr, r2, fun a ha => List.mem_cons_of_mem _ (k1 a (k2 a ha))⟩, fun H' k x => .ins (k _ List.mem_cons_self _ h) i (k3 H' (fun a ha => k a (List.mem_cons_of_mem _ (k1 a ha))) x)⟩
            · cases ed
          · cases e2
        · cases e1
    | dK h i t =>
      cases r with
      | F h => simp [mAt, mKid] at e1
      | P h => simp [mAt, mKid] at e1
      | K h t => simp [mAt, mKid] at e1
      | N h t => simp [mAt, mKid] at e1
      | L h' t' => rw [h] at h'; cases h'
      | O h' n' t' => rw [h] at h'; cases h'
      | T h' t' => have h' := xt _ _ h'; rw [h] at h'; cases h'
      | A h' t' => rw [h] at h'; cases h'
      | M h' t' =>
        rw [h] at h'; cases h'
        simp only [mAt, mKid] at e1
        simp only [dAt, dKid] at e2
        split at e2
        · rename_i d1 ed
          split at ed
          · rename_i y ey
            cases ed
            obtain ⟨_, fq, r1, k1⟩ := RK.get t' i ey
            obtain ⟨⟨fr, r2, k2⟩, k3⟩ := R.reach xt r1 t e1 e2
            exact ⟨⟨fr, r2, fun a ha => List.mem_cons_of_mem _ (k1 a (k2 a ha))⟩, fun H' k x => .dK (k _ List.mem_cons_self _ h) i (k3 H' (fun a ha => k a (List.mem_cons_of_mem _ (k1 a ha))) x)⟩
          · cases ed
        · cases e2
    | tup h i t =>
      cases r with
      | F h => simp [mAt, mKid] at e1
      | P h => simp [mAt, mKid] at e1
      | K h t => rename_i h' _ _ _; rw [h] at h'; cases h'
      | N h' t' => rw [h] at h'; cases h'
      | M h' t' => rw [h] at h'; cases h'
      | L h' t' => rw [h] at h'; cases h'
      | O h' n' t' => rw [h] at h'; cases h'
      | A h' t' => rw [h] at h'; cases h'
      | T h' t' =>
        have hx := xt _ _ h'
        rw [h] at hx; cases hx
        simp only [mAt, mKid] at e1
        simp only [dAt, dKid] at e2
        split at e1
        · rename_i m1 em
          split at e2
          · rename_i d1 ed
            obtain ⟨fq, r1, k1⟩ := RS.get t' em i ed
            obtain ⟨⟨fr, r2, k2⟩, k3⟩ := R.reach xt r1 t e1 e2
            exact ⟨⟨fr, r2, fun a ha => k1 a (k2 a ha)⟩, fun H' k x => .tup (x _ _ h') i (k3 H' (fun a ha => k a (k1 a ha)) x)⟩
          · cases e2
        · cases e1
theorem Has.stp {kd : Kd} {v : V} {d : D} {p : List Nat} (h : Has K S0 S kd v d) (ok : S.ok K) (s : S.to T) (hs : T.σ = S.σ) (pr : Tch p S T) (hh : hold kd p = true) : Has K S0 T kd v d := by
  cases kd with
  | fz => exact Dt.mono s.stp.gext h
  | bor i q m =>
    obtain ⟨m0, d0, v0, h1, h2, h3, h4, h5⟩ := h
    have hi : i ∉ p := by simpa [hold] using hh
    obtain ⟨e1, e2, e3⟩ := pr i hi
    obtain ⟨v1, g1, r⟩ := ok.slot i m0 d0 h1
    rw [h2] at g1; cases g1
    exact ⟨m0, d0, v0, by rw [e1]; exact h1, by rw [hs]; exact h2, (r.strip.reach ok.ext h3 h4 h5).2 T.H e3 (fun a o ho => s.stp.keep a o (ok.ext a o ho) fun ⟨j, hj⟩ => by rw [ok.out j a hj] at ho; cases ho), h4, h5⟩
  | new m =>
    obtain ⟨fp, r, n, k⟩ := h
    refine ⟨fp, r.keep s.stp.gext fun a ha o q => s.stp.keep a o q (k a ha).2.1, n, fun a ha => ⟨?_, fun z => ?_, (k a ha).2.2⟩⟩
    · rw [s.stp.gold a (r.has a ha) (k a ha).2.1]; exact (k a ha).1
    · rcases s.stp.fnew a z with z | z
      · exact (k a ha).2.1 z
      · exact r.has a ha z
theorem Nw.of (s : S.to T) {a : Addr} (h : Nw T a) : Nw S a := by
  rcases h with h | h
  · exact s.stp.fnew a h
  · refine .inr ?_
    cases e : S.H a with
    | none => rfl
    | some o => exact absurd h (s.stp.trk a (by rw [e]; exact fun z => nomatch z))
/-- seen from an earlier start -/
theorem Has.from {kd : Kd} {v : V} {d : D} (h : Has K S0 T kd v d) (s : S.to S0) : Has K S T kd v d := by
  cases kd with
  | fz => exact h
  | bor i q m => exact h
  | new m =>
    obtain ⟨fp, r, n, k⟩ := h
    exact ⟨fp, r, n, fun a ha => ⟨(k a ha).1, (k a ha).2.1, (k a ha).2.2.of s⟩⟩
/-- a borrowed value is held within its slot -/
theorem Has.bor_R (ok : S.ok K) {i : Nat} {p : List Nat} {m : Md} {v : V} {d : D} (h : Has K S0 S (.bor i p m) v d) : ∃ fq, R K S.G S.H m v d fq ∧ ∀ a ∈ fq, a ∈ S.f i := by
  obtain ⟨m0, d0, v0, h1, h2, h3, h4, h5⟩ := h
  obtain ⟨v1, e1, r⟩ := ok.slot i m0 d0 h1
  rw [h2] at e1; cases e1
  exact (r.strip.reach ok.ext h3 h4 h5).1
/-- what is seen of a value in the whole heap -/
theorem Has.dt (ok : S.ok K) {kd : Kd} {v : V} {d : D} (h : Has K S0 S kd v d) : Dt K S.H v d := by
  cases kd with
  | fz => exact Dt.mono ok.ext h
  | bor i p m => obtain ⟨fp, r, _⟩ := h.bor_R ok; exact r.dt ok.ext fun a _ o q => q
  | new m => obtain ⟨fp, r, _⟩ := h; exact r.dt ok.ext fun a _ o q => q
theorem R.F_inv {v : V} {d : D} {fp : List Addr} (h : R K G H .F v d fp) : Dt K G v d ∧ fp = [] := by cases h with | F h => exact ⟨h, rfl⟩

/-! ### names, constants -/
def kAt (i : Nat) (p : List Nat) : Md → Kd
  | .F => .fz
  | m => .bor i p m
def wVar (i : Nat) : DE (Kd × D) := fun ρ P => match ρ[i]? with
  | some (some (m, d)) => P.ok [] (kAt i [] m.st, d) ρ
  | _ => False
/-- of a thing that a path leads to -/
theorem Has.of_at (ok : S.ok K) {i : Nat} {p : List Nat} {m0 m : Md} {d0 d : D} {v0 v : V} (h1 : S.ρ[i]? = some (some (m0, d0))) (h2 : S.σ[i]? = some (some v0)) (h3 : Rch S.H v0 p v) (h4 : mAt m0.st p = some m) (h5 : dAt d0 p = some d) : Has K S0 S (kAt i p m) v d := by
  have h : Has K S0 S (.bor i p m) v d := ⟨m0, d0, v0, h1, h2, h3, h4, h5⟩
  cases m with
  | F => obtain ⟨fq, r, _⟩ := h.bor_R ok; exact r.F_inv.1
  | L m => exact h
  | K => exact h
  | N => exact h
  | M m => exact h
  | O ms => exact h
  | P m => exact h
  | T ms => exact h
  | A ms => exact h
theorem te_var {i : Nat} {Q : VK} (h : te K W (wVar i) σ H Q) : tVar i σ H Q := by
  obtain ⟨S, P, rfl, rfl, ok, w, k, _⟩ := h
  unfold wVar at w
  split at w
  · rename_i m d e
    obtain ⟨v, hv, r⟩ := ok.slot i _ _ e
    exact ⟨v, hv, k _ _ S w rfl ok (Sta.refl S) (Tch.refl S _) v (Has.of_at ok e hv .here rfl rfl)⟩
  · exact w.elim
theorem q_var (i : Nat) {x : Str} {pos : Pos} (hN : X.N[i]? = some x := by rfl) (hv : Vis X.env.scope x := by first | exact Or.inl rfl | exact Or.inr (Or.inl rfl) | exact Or.inr (Or.inr rfl)) (hd : (x == ("__debug__" : Str)) = false := by decide)
    (hcd : (x == ("__classdict__" : Str)) = false := by decide) : PE X (.Name x pos) (te X.K W (wVar i)) := PE.imp (pv i hN hv hd hcd) fun _ _ _ h => te_var h
/-- a thing that is plain data everywhere -/
def wC (d : D) : DE (Kd × D) := fun ρ P => P.ok [] (.fz, d) ρ
theorem te_c {v : V} {d : D} {Q : VK} (hd : ∀ G, Dt K G v d) (h : te K W (wC d) σ H Q) : tC v σ H Q := by
  obtain ⟨S, P, rfl, rfl, ok, w, k, _⟩ := h
  exact k _ _ S w rfl ok (Sta.refl S) (Tch.refl S _) v (hd S.G)
theorem q_int {i j pos} : PE X (.Constant (.int i) j pos) (te X.K W (wC (.int i))) := PE.imp pe_int fun _ _ _ h => te_c (fun _ => .int i) h
theorem q_bl {b j pos} : PE X (.Constant (.bool b) j pos) (te X.K W (wC (.bl b))) := PE.imp pe_bl fun _ _ _ h => te_c (fun _ => .bl b) h
theorem q_non {j pos} : PE X (.Constant .none j pos) (te X.K W (wC .non)) := PE.imp pe_non fun _ _ _ h => te_c (fun _ => .non) h
theorem q_str {x j pos} : PE X (.Constant (.str x) j pos) (te X.K W (wC (.str x))) := PE.imp pe_str fun _ _ _ h => te_c (fun _ => .str x) h

/-! ### operations by values -/
abbrev O2 := Kd × D → Kd × D → (Kd × D → Prop) → Prop
/-- an operation that makes new things alone -/
def OkR2 (K : PySem.W.Frag) (r : R2) (o : O2) : Prop := ∀ (S0 S : Sta) (x y : V) (dx dy : Kd × D) (Q : VK) (q : Kd × D → Prop), S.ok K →
  Has K S0 S dx.1 x dx.2 → Has K S0 S dy.1 y dy.2 → o dx dy q → (∀ z, q z → ∀ (v : V) (G' H' : Hp), Grow S.G S.H G' H' → Has K S (S.at G' H') z.1 v z.2 → Q v H') → r x y S.H Q
def wOp (o : O2) (wa wb : DE (Kd × D)) : DE (Kd × D) := fun ρ P => wa ρ ⟨fun p1 x ρ1 => wb ρ1 ⟨fun p2 y ρ2 => hold x.1 p2 = true ∧ o x y fun z => P.ok (p1 ++ p2) z ρ2, P.ex⟩, P.ex⟩
theorem te_op {r : R2} {o : O2} {wa wb : DE (Kd × D)} {Q : VK} (hr : OkR2 K r o) (h : te K W (wOp o wa wb) σ H Q) : tOp r (te K W wa) (te K W wb) σ H Q := by
  obtain ⟨S, P, rfl, rfl, ok, w, k, ex⟩ := h
  refine ⟨S, _, rfl, rfl, ok, w, fun p1 x S1 w1 e1 ok1 t1 pr1 v1 h1 => ?_, ex⟩
  refine ⟨S1, _, e1, rfl, ok1, w1, fun p2 y S2 w2 e2 ok2 t2 pr2 v2 h2 => ?_, fun C fl T e es okT tT dd hd => ex C fl T e es okT (t1.trans tT) dd hd⟩
  obtain ⟨hh, w2⟩ := w2
  refine hr S S2 v1 v2 x y Q _ ok2 (h1.stp ok1 t2 (e2.trans e1.symm) pr2 hh) (h2.from t1) w2 fun z qz v G' H' g hz => ?_
  exact k _ _ (S2.at G' H') qz e2 (Sta.grow ok2 g) ((t1.trans t2).trans g.to) ((pr1.trans pr2).add g.tch) v (hz.from (t1.trans t2))
theorem q_op {op : Operator} {r : R2} {o : O2} {a b : Expr} {wa wb : DE (Kd × D)} {pos : Pos} (ho : OpR X (binaryOp op) r) (hr : OkR2 X.K r o) (ha : PE X a (te X.K W wa)) (hb : PE X b (te X.K W wb)) : PE X (.BinOp a op b pos) (te X.K W (wOp o wa wb)) :=
  PE.imp (pe_op ho ha hb) fun _ _ _ h => te_op hr h
theorem q_cmp {op : CmpOp} {r : R2} {o : O2} {a b : Expr} {wa wb : DE (Kd × D)} {pos : Pos} (ho : OpR X (compareOp op) r) (hr : OkR2 X.K r o) (ha : PE X a (te X.K W wa)) (hb : PE X b (te X.K W wb)) (hm : behindInMarks op b = false) : PE X (.Compare a [op] [b] pos) (te X.K W (wOp o wa wb)) :=
  PE.imp (pe_cmpR ho ha hb hm) fun _ _ _ h => te_op hr h
theorem q_ix {r : R2} {o : O2} {a b : Expr} {wa wb : DE (Kd × D)} {pos : Pos} (ho : IxR X r) (hr : OkR2 X.K r o) (ha : PE X a (te X.K W wa)) (hb : PE X b (te X.K W wb)) (hs : PlainIx b) : PE X (.Subscript a b pos) (te X.K W (wOp o wa wb)) :=
  PE.imp (pe_ix ho ha hb hs) fun _ _ _ h => te_op hr h
/-- of one value, of a list of values -/
abbrev O1 := Kd × D → (Kd × D → Prop) → Prop
abbrev OL := List (Kd × D) → (Kd × D → Prop) → Prop
def OkR1 (K : PySem.W.Frag) (r : V → Hp → VK → Prop) (o : O1) : Prop := ∀ (S0 S : Sta) (x : V) (dx : Kd × D) (Q : VK) (q : Kd × D → Prop), S.ok K →
  Has K S0 S dx.1 x dx.2 → o dx q → (∀ z, q z → ∀ (v : V) (G' H' : Hp), Grow S.G S.H G' H' → Has K S (S.at G' H') z.1 v z.2 → Q v H') → r x S.H Q
def OkRL (K : PySem.W.Frag) (r : List V → Hp → VK → Prop) (o : OL) : Prop := ∀ (S0 S : Sta) (x : List V) (dx : List (Kd × D)) (Q : VK) (q : Kd × D → Prop), S.ok K →
  HasA K S0 S x dx → o dx q → (∀ z, q z → ∀ (v : V) (G' H' : Hp), Grow S.G S.H G' H' → Has K S (S.at G' H') z.1 v z.2 → Q v H') → r x S.H Q
def wUn (o : O1) (wa : DE (Kd × D)) : DE (Kd × D) := fun ρ P => wa ρ ⟨fun p1 x ρ1 => o x fun z => P.ok p1 z ρ1, P.ex⟩
theorem te_un {r : V → Hp → VK → Prop} {o : O1} {wa : DE (Kd × D)} {Q : VK} (hr : OkR1 K r o) (h : te K W (wUn o wa) σ H Q) : tUn r (te K W wa) σ H Q := by
  obtain ⟨S, P, rfl, rfl, ok, w, k, ex⟩ := h
  refine ⟨S, _, rfl, rfl, ok, w, fun p1 x S1 w1 e1 ok1 t1 pr1 v1 h1 => ?_, ex⟩
  refine hr S S1 v1 x Q _ ok1 h1 w1 fun z qz v G' H' g hz => ?_
  exact k _ _ (S1.at G' H') qz e1 (Sta.grow ok1 g) (t1.trans g.to) (pr1.add g.tch) v (hz.from t1)
theorem q_un {op : UnaryOp} {r : V → Hp → VK → Prop} {o : O1} {a : Expr} {wa : DE (Kd × D)} {pos : Pos} (ho : UnR X (unaryOp op) r) (hr : OkR1 X.K r o) (ha : PE X a (te X.K W wa)) : PE X (.UnaryOp op a pos) (te X.K W (wUn o wa)) :=
  PE.imp (pe_un ho ha) fun _ _ _ h => te_un hr h
def wCB (o : OL) (wa : DE (List (Kd × D))) : DE (Kd × D) := fun ρ P => wa ρ ⟨fun p1 x ρ1 => o x fun z => P.ok p1 z ρ1, P.ex⟩
theorem te_cb {r : List V → Hp → VK → Prop} {o : OL} {wa : DE (List (Kd × D))} {Q : VK} (hr : OkRL K r o) (h : te K W (wCB o wa) σ H Q) : tCB r (ta K W wa) σ H Q := by
  obtain ⟨S, P, rfl, rfl, ok, w, k, ex⟩ := h
  refine ⟨S, _, rfl, rfl, ok, w, fun p1 x S1 w1 e1 ok1 t1 pr1 v1 h1 => ?_, ex⟩
  refine hr S S1 v1 x Q _ ok1 h1 w1 fun z qz v G' H' g hz => ?_
  exact k _ _ (S1.at G' H') qz e1 (Sta.grow ok1 g) (t1.trans g.to) (pr1.add g.tch) v (hz.from t1)
theorem q_callB {x : Str} {id : String} {r : List V → Hp → VK → Prop} {o : OL} {e : Expr} {es : List Expr} {wa : DE (List (Kd × D))} {p pos : Pos} (hc : CallR X (.builtin id) r) (hr : OkRL X.K r o) (hg : Gl X x) (hm : X.mg x = none) (hv : bootBuiltins x = some (.builtin id)) (ha : PA X (e :: es) (ta X.K W wa)) (hn : x ≠ "__name__" := by decide) (hdb : (x == ("__debug__" : Str)) = false := by decide)
    (he : starEach (e :: es) X.env = (false, eval e X.env) :: starEach es X.env := by rfl) (hpl : (backTo pos (starEach es X.env)).any (·.1) = false := by rfl) : PE X (.Call (.Name x p) (e :: es) [] pos) (te X.K W (wCB o wa)) :=
  PE.imp (pe_callB hc hg hm hv ha hn hdb he hpl) fun _ _ _ h => te_cb hr h
theorem q_callTy {x : Str} {T : String} {r : List V → Hp → VK → Prop} {o : OL} {e : Expr} {es : List Expr} {wa : DE (List (Kd × D))} {p pos : Pos} (hc : CallR X (.type T) r) (hr : OkRL X.K r o) (hg : Gl X x) (hm : X.mg x = none) (hv : bootBuiltins x = some (.type T)) (ha : PA X (e :: es) (ta X.K W wa)) (hn : x ≠ "__name__" := by decide) (hdb : (x == ("__debug__" : Str)) = false := by decide)
    (he : starEach (e :: es) X.env = (false, eval e X.env) :: starEach es X.env := by rfl) (hpl : (backTo pos (starEach es X.env)).any (·.1) = false := by rfl) : PE X (.Call (.Name x p) (e :: es) [] pos) (te X.K W (wCB o wa)) :=
  PE.imp (pe_callTy hc hg hm hv ha hn hdb he hpl) fun _ _ _ h => te_cb hr h
end
end VL

namespace VL
open PySem PySem.Spec PyProof.Rows L2
section
variable {K : PySem.W.Frag} {W : WX} {G G' H H' H0 : Hp} {σ : L2.St} {ρ : Rho} {f f' : Own} {pin : Nat → Option V} {X : Cx} {S S0 S1 T T1 T2 : Sta}

/-! ### what is owned becomes what nobody changes -/
open Classical in
noncomputable def Gadd (G H : Hp) (B : Addr → Prop) : Hp := fun a => if B a then H a else G a
theorem Gadd.in {B : Addr → Prop} {a : Addr} (h : B a) : Gadd G H B a = H a := if_pos h
theorem Gadd.out {B : Addr → Prop} {a : Addr} (h : ¬ B a) : Gadd G H B a = G a := if_neg h
theorem Gadd.ext {B : Addr → Prop} (k : ∀ a, B a → G a = none) : Ex G (Gadd G H B) := fun a o e => by
  rw [Gadd.out fun h => by rw [k a h] at e; cases e]; exact e
theorem Gadd.sub {B : Addr → Prop} (e : Ex G H) : Ex (Gadd G H B) H := fun a o q => by
  by_cases h : B a
  · rw [Gadd.in h] at q; exact q
  · rw [Gadd.out h] at q; exact e a o q
theorem Sx.gadd (S : Sx K pin G H σ ρ f) {B : Addr → Prop} (k : ∀ a, B a → G a = none ∧ ¬ Ow f a) : Sx K pin (Gadd G H B) H σ ρ f where
  ext := Gadd.sub S.ext
  len := S.len
  slot := fun i m d e => by
    obtain ⟨v, h1, r⟩ := S.slot i m d e
    exact ⟨v, h1, r.keep (Gadd.ext fun a h => (k a h).1) fun a _ o h => h⟩
  emp := S.emp
  nd := S.nd
  dj := S.dj
  out := fun i a h => by
    rw [Gadd.out fun z => (k a z).2 ⟨i, h⟩]
    exact S.out i a h
  pins := S.pins
/-- what is new since S is frozen -/
theorem Sta.to.gadd (t : S.to T) {B : Addr → Prop} (k : ∀ a, B a → T.G a = none ∧ ¬ Ow T.f a ∧ Nw S a) : S.to (T.at (Gadd T.G T.H B) T.H) where
  stp := {
    gext := t.stp.gext.trans (Gadd.ext fun a h => (k a h).1)
    keep := t.stp.keep
    gold := fun a h1 h2 => by
      show Gadd T.G T.H B a = _
      rw [Gadd.out fun z => ?_]
      · exact t.stp.gold a h1 h2
      · rcases (k a z).2.2 with q | q
        · exact h2 q
        · exact h1 q
    fnew := t.stp.fnew
    trk := t.stp.trk }
  pin := t.pin
def Kd.frz : Kd → Kd
  | .new _ => .fz
  | k => k
def wFz (w : DE (Kd × D)) : DE (Kd × D) := fun ρ P => w ρ ⟨fun p x ρ' => P.ok p (x.1.frz, x.2) ρ', P.ex⟩
theorem te_fz {w : DE (Kd × D)} {Q : VK} (h : te K W (wFz w) σ H Q) : te K W w σ H Q := by
  obtain ⟨S, P, rfl, rfl, ok, w, k, ex⟩ := h
  refine ⟨S, _, rfl, rfl, ok, w, fun p x T w1 e1 ok1 t1 pr1 v h1 => ?_, ex⟩
  obtain ⟨kd, d⟩ := x
  cases kd with
  | fz => exact k _ _ T w1 e1 ok1 t1 pr1 v h1
  | bor i q m => exact k _ _ T w1 e1 ok1 t1 pr1 v h1
  | new m =>
    obtain ⟨fp, r, n, kk⟩ := h1
    refine k _ _ (T.at (Gadd T.G T.H (· ∈ fp)) T.H) w1 e1 (Sx.gadd ok1 fun a h => ⟨(kk a h).1, (kk a h).2.1⟩) (t1.gadd kk) pr1 v ?_
    show Dt K _ v d
    exact r.dt (Gadd.ext fun a h => (kk a h).1) fun a ha o q => by rw [Gadd.in ha]; exact q
theorem q_fz {e : Expr} {w : DE (Kd × D)} (h : PE X e (te X.K W w)) : PE X e (te X.K W (wFz w)) := PE.imp h fun _ _ _ h => te_fz h

/-! ### argument lists -/
def wNil : DE (List (Kd × D)) := fun ρ P => P.ok [] [] ρ
def wCons (wa : DE (Kd × D)) (wr : DE (List (Kd × D))) : DE (List (Kd × D)) := fun ρ P => wFz wa ρ ⟨fun p1 x ρ1 => wr ρ1 ⟨fun p2 xs ρ2 => hold x.1 p2 = true ∧ P.ok (p1 ++ p2) (x :: xs) ρ2, P.ex⟩, P.ex⟩
theorem ta_nil {Q : List V → Hp → Prop} (h : ta K W wNil σ H Q) : tNil σ H Q := by
  obtain ⟨S, P, rfl, rfl, ok, w, k, _⟩ := h
  exact k _ _ S w rfl ok (Sta.refl S) (Tch.refl S _) [] .nil
theorem HasA.from {vs : List V} {ds : List (Kd × D)} (h : HasA K S0 T vs ds) (s : S.to S0) : HasA K S T vs ds := by
  induction h with
  | nil => exact .nil
  | cons h t ih => exact .cons (h.from s) ih
theorem ta_cons {wa : DE (Kd × D)} {wr : DE (List (Kd × D))} {Q : List V → Hp → Prop} (h : ta K W (wCons wa wr) σ H Q) : tCons (te K W wa) (ta K W wr) σ H Q := by
  obtain ⟨S, P, rfl, rfl, ok, w, k, ex⟩ := h
  unfold wCons at w
  show te K W wa S.σ S.H fun x H1 => ta K W wr S.σ H1 fun xs H2 => Q (x :: xs) H2
  refine te_fz ⟨S, _, rfl, rfl, ok, w, fun p1 x S1 w1 e1 ok1 t1 pr1 v1 h1 => ?_, ex⟩
  refine ⟨S1, _, e1, rfl, ok1, w1, fun p2 xs S2 w2 e2 ok2 t2 pr2 vs h2 => ?_, fun C fl T e es okT tT dd hd => ex C fl T e es okT (t1.trans tT) dd hd⟩
  exact k _ _ S2 w2.2 e2 ok2 (t1.trans t2) (pr1.trans pr2) _ (.cons (h1.stp ok1 t2 (e2.trans e1.symm) pr2 w2.1) (h2.from t1))
theorem q_nil : PA X [] (ta X.K W wNil) := PA.imp pa_nil fun _ _ _ h => ta_nil h
theorem q_cons {e : Expr} {es : List Expr} {wa : DE (Kd × D)} {wr : DE (List (Kd × D))} (ha : PE X e (te X.K W wa)) (hr : PA X es (ta X.K W wr)) (hs : starEach (e :: es) X.env = (false, eval e X.env) :: starEach es X.env := by rfl) : PA X (e :: es) (ta X.K W (wCons wa wr)) :=
  PA.imp (pa_cons ha hr hs) fun _ _ _ h => ta_cons h

/-! ### displays -/
def allFz : List (Kd × D) → Bool
  | [] => true
  | (.fz, _) :: r => allFz r
  | _ => false
theorem HasA.fzs {vs : List V} : ∀ {ds : List (Kd × D)}, HasA K S0 T vs ds → allFz ds = true → DtA K T.G vs (ds.map (·.2)) := by
  intro ds h
  induction h with
  | nil => exact fun _ => .nil
  | @cons v kd d vs ds h t ih =>
    intro a
    cases kd with
    | fz => exact .cons h (ih a)
    | bor i p m => cases a
    | new m => cases a
theorem HasA.dts (ok : T.ok K) {vs : List V} {ds : List (Kd × D)} (h : HasA K S0 T vs ds) : DtA K T.H vs (ds.map (·.2)) := by
  induction h with
  | nil => exact .nil
  | cons h t ih => exact .cons (h.dt ok) ih
theorem HasA.len {vs : List V} {ds : List (Kd × D)} (h : HasA K S0 T vs ds) : vs.length = ds.length := by
  induction h with
  | nil => rfl
  | cons h t ih => simp [ih]
theorem DtA.len {G : Hp} : ∀ {vs : List V} {ds : List D}, DtA K G vs ds → vs.length = ds.length
  | _, _, .nil => rfl
  | _, _, .cons h t => by simp [DtA.len t]
theorem DtA.get {G : Hp} : ∀ {vs : List V} {ds : List D} {j : Nat} {d : D}, DtA K G vs ds → ds[j]? = some d → ∃ v, vs[j]? = some v ∧ Dt K G v d
  | _, _, _, _, .nil, h => by simp at h
  | _, _, 0, _, .cons h t, e => by simp at e; subst e; exact ⟨_, rfl, h⟩
  | _, _, j + 1, _, .cons h t, e => by
    obtain ⟨v, e1, h1⟩ := DtA.get t (j := j) (by simpa using e)
    exact ⟨v, by simpa using e1, h1⟩
theorem DtA.append {G : Hp} : ∀ {vs ws : List V} {ds es : List D}, DtA K G vs ds → DtA K G ws es → DtA K G (vs ++ ws) (ds ++ es)
  | _, _, _, _, .nil, h => h
  | _, _, _, _, .cons h t, h' => .cons h (DtA.append t h')
theorem DtA.take {G : Hp} : ∀ {vs : List V} {ds : List D} (n : Nat), DtA K G vs ds → DtA K G (vs.take n) (ds.take n)
  | _, _, 0, _ => by simp; exact .nil
  | _, _, _ + 1, .nil => by simp; exact .nil
  | _, _, n + 1, .cons h t => by simp; exact .cons h (DtA.take n t)
theorem DtA.drop {G : Hp} : ∀ {vs : List V} {ds : List D} (n : Nat), DtA K G vs ds → DtA K G (vs.drop n) (ds.drop n)
  | _, _, 0, h => by simpa using h
  | _, _, _ + 1, .nil => by simp; exact .nil
  | _, _, n + 1, .cons h t => by simp; exact DtA.drop n t
theorem DtA.rep {G : Hp} {vs : List V} {ds : List D} (h : DtA K G vs ds) : ∀ n : Nat, DtA K G (List.replicate n vs).flatten (List.replicate n ds).flatten
  | 0 => by simp; exact .nil
  | n + 1 => by simp only [List.replicate_succ, List.flatten_cons]; exact DtA.append h (DtA.rep h n)
theorem RA.of_dt {G H : Hp} : ∀ {vs : List V} {ds : List D}, DtA K G vs ds → RA K G H .F vs ds []
  | _, _, .nil => .nil
  | _, _, .cons h t => by
    have q := RA.cons (H := H) (.F h) (RA.of_dt (H := H) t)
    simpa using q
theorem RA.F_dt {G H : Hp} : ∀ {vs : List V} {ds : List D} {fp : List Addr}, RA K G H .F vs ds fp → DtA K G vs ds ∧ fp = []
  | _, _, _, .nil => ⟨.nil, rfl⟩
  | _, _, _, .cons h t => by
    obtain ⟨h1, h2⟩ := h.F_inv
    obtain ⟨h3, h4⟩ := RA.F_dt t
    exact ⟨.cons h1 h3, by rw [h2, h4]; rfl⟩
def small (n : Nat) : Bool := Nat.ble n 100000
theorem small_sz {n : Nat} (h : small n = true) : n ≤ sizeLine := Nat.le_trans (Nat.le_of_ble_eq_true h) (by decide)
def wTup (wa : DE (List (Kd × D))) : DE (Kd × D) := fun ρ P => wa ρ ⟨fun p xs ρ' => (allFz xs = true ∧ small xs.length = true) ∧ P.ok p (.fz, .tup (xs.map (·.2))) ρ', P.ex⟩
def wLst (wa : DE (List (Kd × D))) : DE (Kd × D) := fun ρ P => wa ρ ⟨fun p xs ρ' => (allFz xs = true ∧ small xs.length = true) ∧ P.ok p (.new (.L .F), .lst (xs.map (·.2))) ρ', P.ex⟩
theorem Dt.tup_new {p : Addr} {vs : List V} {ds : List D} (h : DtA K G vs ds) (hp : G p = none) : Dt K (upd G p (.tup vs)) (.ref p) (.tup ds) := .tup (.of upd_same) (h.mono (Ex.new hp))
/-- a new list of one's own, of frozen things -/
theorem Has.lst_new {p : Addr} {vs : List V} {ds : List D} (ok : T.ok K) (h : DtA K T.G vs ds) (hp : T.H p = none) (n : S0.H p = none) : Has K S0 (T.at T.G (upd T.H p (.lst vs))) (.new (.L .F)) (.ref p) (.lst ds) := by
  refine ⟨[p], .L upd_same (RA.of_dt h), by simp, fun a ha => ?_⟩
  have e : a = p := by simpa using ha
  subst e
  exact ⟨ok.ext.free hp, fun z => ok.own z hp, .inr n⟩
theorem Stp.free {G H G' H' : Hp} {f f' : Own} (s : Stp G H f G' H' f') {a : Addr} (h : H' a = none) : H a = none := by
  cases e : H a with
  | none => rfl
  | some o => exact absurd h (s.trk a (by rw [e]; exact fun z => nomatch z))
theorem te_tup {wa : DE (List (Kd × D))} {Q : VK} (h : te K W (wTup wa) σ H Q) : tTup (ta K W wa) σ H Q := by
  obtain ⟨S, P, rfl, rfl, ok, w, k, ex⟩ := h
  refine ⟨S, _, rfl, rfl, ok, w, fun p1 x S1 w1 e1 ok1 t1 pr1 v1 h1 => ?_, ex⟩
  refine ⟨by rw [h1.len]; exact small_sz w1.1.2, fun p hp => ?_⟩
  have g : Grow S1.G S1.H (upd S1.G p (.tup v1)) (upd S1.H p (.tup v1)) := Grow.new ok1.ext hp
  exact k _ _ (S1.at (upd S1.G p (.tup v1)) (upd S1.H p (.tup v1))) w1.2 e1 (Sta.grow ok1 g) (t1.trans g.to) (pr1.add g.tch) _ (Dt.tup_new (h1.fzs w1.1.1) (ok1.ext.free hp))
theorem te_lst {wa : DE (List (Kd × D))} {Q : VK} (h : te K W (wLst wa) σ H Q) : tLst (ta K W wa) σ H Q := by
  obtain ⟨S, P, rfl, rfl, ok, w, k, ex⟩ := h
  refine ⟨S, _, rfl, rfl, ok, w, fun p1 x S1 w1 e1 ok1 t1 pr1 v1 h1 => ?_, ex⟩
  refine ⟨by rw [h1.len]; exact small_sz w1.1.2, fun p hp => ?_⟩
  have g : Grow S1.G S1.H S1.G (upd S1.H p (.lst v1)) := Grow.own ok1.ext hp
  exact k _ _ (S1.at S1.G (upd S1.H p (.lst v1))) w1.2 e1 (Sta.grow ok1 g) (t1.trans g.to) (pr1.add g.tch) _ (Has.lst_new ok1 (h1.fzs w1.1.1) hp (t1.stp.free hp))
theorem q_tup {es : List Expr} {x1 : Nat} {pos : Pos} {wa : DE (List (Kd × D))} (h : PA X es (ta X.K W wa)) : PE X (.Tuple es x1 pos) (te X.K W (wTup wa)) := PE.imp (pe_tup h) fun _ _ _ h => te_tup h
theorem q_lst {es : List Expr} {pos : Pos} {wa : DE (List (Kd × D))} (h : PA X es (ta X.K W wa)) : PE X (.List es pos) (te X.K W (wLst wa)) := PE.imp (pe_lst h) fun _ _ _ h => te_lst h
/-- {} -/
def wDic : DE (Kd × D) := fun ρ P => P.ok [] (.new .K, .dct []) ρ
/-! ### tests -/
def wT (w : DE (Kd × D)) : DE Bool := fun ρ P => w ρ ⟨fun p x ρ' => match x.2 with
  | .bl b => P.ok p b ρ'
  | _ => False, P.ex⟩
theorem Has.bl_inv (ok : T.ok K) {kd : Kd} {v : V} {b : Bool} (h : Has K S0 T kd v (.bl b)) : v = .bl b := by
  have q := h.dt ok
  cases q; rfl
theorem Has.int_inv (ok : T.ok K) {kd : Kd} {v : V} {b : Int} (h : Has K S0 T kd v (.int b)) : v = .int b := by
  have q := h.dt ok
  cases q; rfl
theorem Has.str_inv (ok : T.ok K) {kd : Kd} {v : V} {b : Str} (h : Has K S0 T kd v (.str b)) : v = .str b := by
  have q := h.dt ok
  cases q; rfl
theorem tt_T {w : DE (Kd × D)} {Q : Bool → Hp → Prop} (h : tt K W (wT w) σ H Q) : te K W w σ H fun x H1 => ∃ c, x = .bl c ∧ Q c H1 := by
  obtain ⟨S, P, rfl, rfl, ok, w, k, ex⟩ := h
  unfold wT at w
  refine ⟨S, _, rfl, rfl, ok, w, fun p1 x S1 w1 e1 ok1 t1 pr1 v1 h1 => ?_, ex⟩
  obtain ⟨kd, d⟩ := x
  cases d with
  | bl b => exact ⟨b, h1.bl_inv ok1, k _ _ S1 w1 e1 ok1 t1 pr1 _ rfl⟩
  | _ => exact w1.elim
/-- a call, a name, .. as a test -/
theorem q_tval {e : Expr} {w : DE (Kd × D)} (h : PE X e (te X.K W w)) (he : ∀ whole, isTrue e X.env whole = (do let v ← whole; standAt e.pos; holding [v] (truthy v)) := by intro _; rfl) : PT X e (tt X.K W (wT w)) :=
  PT.imp (pt_val h he) fun _ _ _ h => tt_T h
theorem q_tcmp {op : CmpOp} {r : R2} {o : O2} {a b : Expr} {wa wb : DE (Kd × D)} {pos : Pos} (ho : OpR X (compareOp op) r) (hr : OkR2 X.K r o) (ha : PE X a (te X.K W wa)) (hb : PE X b (te X.K W wb)) (hm : behindInMarks op b = false) : PT X (.Compare a [op] [b] pos) (tt X.K W (wT (wOp o wa wb))) :=
  PT.imp (pt_cmpR ho ha hb hm) fun _ _ _ h => te_op hr (tt_T h)
def wAnd (a b : DE Bool) : DE Bool := fun ρ P => a ρ ⟨fun p1 c ρ1 => match c with
  | true => b ρ1 ⟨fun p2 c2 ρ2 => P.ok (p1 ++ p2) c2 ρ2, P.ex⟩
  | false => P.ok p1 false ρ1, P.ex⟩
def wOr (a b : DE Bool) : DE Bool := fun ρ P => a ρ ⟨fun p1 c ρ1 => match c with
  | true => P.ok p1 true ρ1
  | false => b ρ1 ⟨fun p2 c2 ρ2 => P.ok (p1 ++ p2) c2 ρ2, P.ex⟩, P.ex⟩
def wNot (a : DE Bool) : DE Bool := fun ρ P => a ρ ⟨fun p1 c ρ1 => P.ok p1 (!c) ρ1, P.ex⟩
theorem tt_and {a b : DE Bool} {Q : Bool → Hp → Prop} (h : tt K W (wAnd a b) σ H Q) : tAnd (tt K W a) (tt K W b) σ H Q := by
  obtain ⟨S, P, rfl, rfl, ok, w, k, ex⟩ := h
  unfold wAnd at w
  refine ⟨S, _, rfl, rfl, ok, w, fun p1 c S1 w1 e1 ok1 t1 pr1 v1 h1 => ?_, ex⟩
  subst h1
  cases v1 with
  | true =>
    refine ⟨S1, _, e1, rfl, ok1, w1, fun p2 c2 S2 w2 e2 ok2 t2 pr2 v2 h2 => ?_, fun C fl T e es okT tT dd hd => ex C fl T e es okT (t1.trans tT) dd hd⟩
    exact k _ _ S2 w2 e2 ok2 (t1.trans t2) (pr1.trans pr2) _ h2
  | false => exact k _ _ S1 w1 e1 ok1 t1 pr1 _ rfl
theorem tt_or {a b : DE Bool} {Q : Bool → Hp → Prop} (h : tt K W (wOr a b) σ H Q) : tOr (tt K W a) (tt K W b) σ H Q := by
  obtain ⟨S, P, rfl, rfl, ok, w, k, ex⟩ := h
  unfold wOr at w
  refine ⟨S, _, rfl, rfl, ok, w, fun p1 c S1 w1 e1 ok1 t1 pr1 v1 h1 => ?_, ex⟩
  subst h1
  cases v1 with
  | false =>
    refine ⟨S1, _, e1, rfl, ok1, w1, fun p2 c2 S2 w2 e2 ok2 t2 pr2 v2 h2 => ?_, fun C fl T e es okT tT dd hd => ex C fl T e es okT (t1.trans tT) dd hd⟩
    exact k _ _ S2 w2 e2 ok2 (t1.trans t2) (pr1.trans pr2) _ h2
  | true => exact k _ _ S1 w1 e1 ok1 t1 pr1 _ rfl
theorem tt_not {a : DE Bool} {Q : Bool → Hp → Prop} (h : tt K W (wNot a) σ H Q) : tNot (tt K W a) σ H Q := by
  obtain ⟨S, P, rfl, rfl, ok, w, k, ex⟩ := h
  refine ⟨S, _, rfl, rfl, ok, w, fun p1 c S1 w1 e1 ok1 t1 pr1 v1 h1 => ?_, ex⟩
  subst h1
  exact k _ _ S1 w1 e1 ok1 t1 pr1 _ rfl
section
variable {a b : Expr} {rest : List Expr} {pos : Pos} {wa wb : DE Bool}
theorem qw_and1 (ha : PT X a (tt X.K W wa)) : PW X (.BoolOp .And [a] pos) (tt X.K W wa) := pw_and1 ha
theorem qw_or1 (ha : PT X a (tt X.K W wa)) : PW X (.BoolOp .Or [a] pos) (tt X.K W wa) := pw_or1 ha
theorem qw_and (ha : PT X a (tt X.K W wa)) (hb : PW X (.BoolOp .And (b :: rest) pos) (tt X.K W wb)) : PW X (.BoolOp .And (a :: b :: rest) pos) (tt X.K W (wAnd wa wb)) := PW.imp (pw_and ha hb) fun _ _ _ h => tt_and h
theorem qw_or (ha : PT X a (tt X.K W wa)) (hb : PW X (.BoolOp .Or (b :: rest) pos) (tt X.K W wb)) : PW X (.BoolOp .Or (a :: b :: rest) pos) (tt X.K W (wOr wa wb)) := PW.imp (pw_or ha hb) fun _ _ _ h => tt_or h
theorem q_not (ha : PT X a (tt X.K W wa)) : PT X (.UnaryOp .Not a pos) (tt X.K W (wNot wa)) := PT.imp (pt_not ha) fun _ _ _ h => tt_not h
end
/-- .. as values (of bools) -/
def wAndV (a b : DE (Kd × D)) : DE (Kd × D) := fun ρ P => a ρ ⟨fun p1 x ρ1 => match x.2 with
  | .bl true => b ρ1 ⟨fun p2 c2 ρ2 => P.ok (p1 ++ p2) c2 ρ2, P.ex⟩
  | .bl false => P.ok p1 (.fz, .bl false) ρ1
  | _ => False, P.ex⟩
def wOrV (a b : DE (Kd × D)) : DE (Kd × D) := fun ρ P => a ρ ⟨fun p1 x ρ1 => match x.2 with
  | .bl false => b ρ1 ⟨fun p2 c2 ρ2 => P.ok (p1 ++ p2) c2 ρ2, P.ex⟩
  | .bl true => P.ok p1 (.fz, .bl true) ρ1
  | _ => False, P.ex⟩
def wNotV (a : DE (Kd × D)) : DE (Kd × D) := fun ρ P => a ρ ⟨fun p1 x ρ1 => match x.2 with
  | .bl b => P.ok p1 (.fz, .bl (!b)) ρ1
  | _ => False, P.ex⟩
theorem te_andV {a b : DE (Kd × D)} {Q : VK} (h : te K W (wAndV a b) σ H Q) : tAndV (te K W a) (te K W b) σ H Q := by
  obtain ⟨S, P, rfl, rfl, ok, w, k, ex⟩ := h
  unfold wAndV at w
  refine ⟨S, _, rfl, rfl, ok, w, fun p1 x S1 w1 e1 ok1 t1 pr1 v1 h1 => ?_, ex⟩
  obtain ⟨kd, d⟩ := x
  cases d with
  | bl b =>
    refine ⟨b, h1.bl_inv ok1, ?_⟩
    cases b with
    | true =>
      refine ⟨S1, _, e1, rfl, ok1, w1, fun p2 c2 S2 w2 e2 ok2 t2 pr2 v2 h2 => ?_, fun C fl T e es okT tT dd hd => ex C fl T e es okT (t1.trans tT) dd hd⟩
      exact k _ _ S2 w2 e2 ok2 (t1.trans t2) (pr1.trans pr2) _ (h2.from t1)
    | false => exact k _ _ S1 w1 e1 ok1 t1 pr1 _ (.bl false)
  | _ => exact w1.elim
theorem te_notV {a : DE (Kd × D)} {Q : VK} (h : te K W (wNotV a) σ H Q) : tNotV (te K W a) σ H Q := by
  obtain ⟨S, P, rfl, rfl, ok, w, k, ex⟩ := h
  unfold wNotV at w
  refine ⟨S, _, rfl, rfl, ok, w, fun p1 x S1 w1 e1 ok1 t1 pr1 v1 h1 => ?_, ex⟩
  obtain ⟨kd, d⟩ := x
  cases d with
  | bl b => exact ⟨b, h1.bl_inv ok1, k _ _ S1 w1 e1 ok1 t1 pr1 _ (.bl _)⟩
  | _ => exact w1.elim
def wIf (t : DE Bool) (a b : DE (Kd × D)) : DE (Kd × D) := fun ρ P => t ρ ⟨fun p1 c ρ1 => match c with
  | true => a ρ1 ⟨fun p2 x ρ2 => P.ok (p1 ++ p2) x ρ2, P.ex⟩
  | false => b ρ1 ⟨fun p2 x ρ2 => P.ok (p1 ++ p2) x ρ2, P.ex⟩, P.ex⟩
section
variable {a b c : Expr} {rest : List Expr} {pos : Pos} {wa wb wc : DE (Kd × D)} {wt : DE Bool}
theorem q_one {op} (h : PE X a (te X.K W wa)) : PE X (.BoolOp op [a] pos) (te X.K W wa) := pe_one h
theorem q_and (ha : PE X a (te X.K W wa)) (hb : PE X (.BoolOp .And (b :: rest) pos) (te X.K W wb)) : PE X (.BoolOp .And (a :: b :: rest) pos) (te X.K W (wAndV wa wb)) := PE.imp (pe_and ha hb) fun _ _ _ h => te_andV h
theorem q_notV (ha : PE X a (te X.K W wa)) : PE X (.UnaryOp .Not a pos) (te X.K W (wNotV wa)) := PE.imp (pe_not ha) fun _ _ _ h => te_notV h
end
/-- a < b < c -/
def wChain (o o' : O2) (wa wb wc : DE (Kd × D)) : DE (Kd × D) := fun ρ P => wa ρ ⟨fun p1 x ρ1 => wb ρ1 ⟨fun p2 y ρ2 => hold x.1 p2 = true ∧ o x y fun z => match z.2 with
  | .bl true => wc ρ2 ⟨fun p3 u ρ3 => hold y.1 p3 = true ∧ o' y u fun z => P.ok (p1 ++ p2 ++ p3) z ρ3, P.ex⟩
  | .bl false => P.ok (p1 ++ p2) (.fz, .bl false) ρ2
  | _ => False, P.ex⟩, P.ex⟩
theorem Has.at_grow {kd : Kd} {v : V} {d : D} (ok : S.ok K) (g : Grow S.G S.H G' H') (h : Has K S0 S kd v d) : Has K S0 (S.at G' H') kd v d :=
  h.stp (p := []) ok g.to rfl g.tch (by cases kd <;> rfl)
theorem te_chain {r r' : R2} {o o' : O2} {wa wb wc : DE (Kd × D)} {Q : VK} (hr : OkR2 K r o) (hr' : OkR2 K r' o') (h : te K W (wChain o o' wa wb wc) σ H Q) : tChain r r' (te K W wa) (te K W wb) (te K W wc) σ H Q := by
  obtain ⟨S, P, rfl, rfl, ok, w, k, ex⟩ := h
  refine ⟨S, _, rfl, rfl, ok, w, fun p1 x S1 w1 e1 ok1 t1 pr1 v1 h1 => ?_, ex⟩
  refine ⟨S1, _, e1, rfl, ok1, w1, fun p2 y S2 w2 e2 ok2 t2 pr2 v2 h2 => ?_, fun C fl T e es okT tT dd hd => ex C fl T e es okT (t1.trans tT) dd hd⟩
  obtain ⟨hh, w2⟩ := w2
  refine hr S S2 v1 v2 x y _ _ ok2 (h1.stp ok1 t2 (e2.trans e1.symm) pr2 hh) (h2.from t1) w2 fun z qz v G' H' g hz => ?_
  obtain ⟨kz, dz⟩ := z
  have okg := Sta.grow ok2 g
  have t12 := (t1.trans t2).trans g.to
  cases dz with
  | bl b =>
    refine ⟨b, hz.bl_inv okg, ?_⟩
    cases b with
    | true =>
      refine ⟨S2.at G' H', _, e2, rfl, okg, qz, fun p3 u S3 w3 e3 ok3 t3 pr3 v3 h3 => ?_, fun C fl T e es okT tT dd hd => ex C fl T e es okT (t12.trans tT) dd hd⟩
      refine hr' S S3 v2 v3 y u _ _ ok3 (((h2.from t1).at_grow ok2 g).stp okg t3 (e3.trans e2.symm) pr3 w3.1) (h3.from t12) w3.2 fun z qz v G'' H'' g' hz => ?_
      exact k _ _ (S3.at G'' H'') qz e3 (Sta.grow ok3 g') ((t12.trans t3).trans g'.to) (((((pr1.trans pr2).add g.tch).trans pr3)).add g'.tch) v (hz.from (t12.trans t3))
    | false => exact k _ _ (S2.at G' H') qz e2 okg t12 ((pr1.trans pr2).add g.tch) _ (.bl false)
  | _ => exact qz.elim
theorem q_chain {op op' : CmpOp} {r r' : R2} {o o' : O2} {a b c : Expr} {wa wb wc : DE (Kd × D)} {pos : Pos} (ho : OpR X (compareOp op) r) (ho' : OpR X (compareOp op') r') (hr : OkR2 X.K r o) (hr' : OkR2 X.K r' o') (ha : PE X a (te X.K W wa)) (hb : PE X b (te X.K W wb)) (hc : PE X c (te X.K W wc))
    (hm : lastMarks [op, op'] [b, c] = false := by with_unfolding_all rfl) : PE X (.Compare a [op, op'] [b, c] pos) (te X.K W (wChain o o' wa wb wc)) :=
  PE.imp (pe_chain ho ho' ha hb hc hm) fun _ _ _ h => te_chain hr hr' h
end
end VL

namespace VL
open PySem PySem.Spec PyProof.Rows L2
section
variable {K : PySem.W.Frag} {W : WX} {G G' H H' H0 : Hp} {σ : L2.St} {ρ : Rho} {f f' : Own} {pin : Nat → Option V} {X : Cx} {S S0 S1 T T1 T2 : Sta} {E : En} {Z : Ends}

theorem Lead.to (l : Lead K W S E Z) (t : S.to T) : Lead K W T E Z where
  nx := fun U e ok u => l.nx U e ok (t.trans u)
  bk := fun U e ok u => l.bk U e ok (t.trans u)
  ct := fun U e ok u => l.ct U e ok (t.trans u)
  rt := fun x U e ok u v h => l.rt x U e ok (t.trans u) v (h.from t)
  ex := fun C fl U e ok u dd h => l.ex C fl U e ok (t.trans u) dd h
/-! ### blocks -/
def wNext : DS := fun E ρ => E.nx ρ
def wSeq (a b : DS) : DS := fun E ρ => a { E with nx := b E } ρ
theorem ts_next (h : ts K W wNext Z σ H) : tNext Z σ H := by
  obtain ⟨S, E, rfl, rfl, ok, w, l⟩ := h
  exact l.nx S w ok (Sta.refl S)
theorem ts_seq {a b : DS} (h : ts K W (wSeq a b) Z σ H) : tSeq (ts K W a) (ts K W b) Z σ H := by
  obtain ⟨S, E, rfl, rfl, ok, w, l⟩ := h
  refine ⟨S, _, rfl, rfl, ok, w, ?_⟩
  exact ⟨fun T e okT t => ⟨T, E, rfl, rfl, okT, e, l.to t⟩, l.bk, l.ct, l.rt, l.ex⟩
theorem qs_nil : PSs X [] (ts X.K W wNext) := PSs.imp pss_nil fun _ _ _ h => ts_next h
theorem qs_cons {s : Stmt} {r : List Stmt} {a b : DS} (h : PS X s (ts X.K W a)) (t : PSs X r (ts X.K W b)) : PSs X (s :: r) (ts X.K W (wSeq a b)) := PSs.imp (pss_cons h t) fun _ _ _ h => ts_seq h
theorem qs_one {s : Stmt} {a : DS} (h : PS X s (ts X.K W a)) : PSs X [s] (ts X.K W a) := pss_one h
def wBreak : DS := fun E ρ => E.bk ρ
def wCont : DS := fun E ρ => E.ct ρ
/-- an expression within a statement -/
theorem te_in {we : DE (Kd × D)} {P : List Nat → Kd × D → Rho → Prop} {Q : VK} (ok : S.ok K) (l : Lead K W S E Z) (w : we S.ρ ⟨P, E.ex⟩)
    (k : ∀ p x (T : Sta), P p x T.ρ → T.σ = S.σ → T.ok K → S.to T → Tch p S T → ∀ v : V, Has K S T x.1 v x.2 → Q v T.H) : te K W we S.σ S.H Q :=
  ⟨S, ⟨P, E.ex⟩, rfl, rfl, ok, w, k, fun C fl T e es okT tT dd hd => es ▸ l.ex C fl T e okT tT dd hd⟩
def wDrop (we : DE (Kd × D)) : DS := fun E ρ => we ρ ⟨fun _ _ ρ' => E.nx ρ', E.ex⟩
theorem ts_drop {we : DE (Kd × D)} (h : ts K W (wDrop we) Z σ H) : tDrop (te K W we) Z σ H := by
  obtain ⟨S, E, rfl, rfl, ok, w, l⟩ := h
  exact te_in ok l w fun p x T e es okT t _ v _ => es ▸ l.nx T e okT t
theorem q_expr {e : Expr} {we : DE (Kd × D)} {pos : Pos} (he : PE X e (te X.K W we)) (hs : swapsWith e none pos.line X.env = pure false := by rfl) : PS X (.Expr e pos) (ts X.K W (wDrop we)) := PS.imp (ps_expr he hs) fun _ _ _ h => ts_drop h
def wRet (we : DE (Kd × D)) : DS := fun E ρ => we ρ ⟨fun _ x ρ' => E.rt x ρ', E.ex⟩
theorem ts_ret {we : DE (Kd × D)} (h : ts K W (wRet we) Z σ H) : tRet (te K W we) Z σ H := by
  obtain ⟨S, E, rfl, rfl, ok, w, l⟩ := h
  exact te_in ok l w fun p x T e es okT t _ v hv => l.rt x T e okT t v hv
theorem q_ret {e : Expr} {we : DE (Kd × D)} {pos : Pos} (he : PE X e (te X.K W we)) : PS X (.Return (some e) pos) (ts X.K W (wRet we)) := PS.imp (ps_ret he) fun _ _ _ h => ts_ret h
def wRetN : DS := fun E ρ => E.rt (.fz, .non) ρ
def wIfS (c : DE Bool) (a b : DS) : DS := fun E ρ => c ρ ⟨fun _ k ρ' => match k with
  | true => a E ρ'
  | false => b E ρ', E.ex⟩
theorem ts_if {c : DE Bool} {a b : DS} (h : ts K W (wIfS c a b) Z σ H) : tIfS (tt K W c) (ts K W a) (ts K W b) Z σ H := by
  obtain ⟨S, E, rfl, rfl, ok, w, l⟩ := h
  unfold wIfS at w
  refine ⟨S, _, rfl, rfl, ok, w, fun p k T e es okT t _ v hv => ?_, fun C fl T e es okT tT dd hd => es ▸ l.ex C fl T e okT tT dd hd⟩
  subst hv
  cases v with
  | true => exact ⟨T, E, es, rfl, okT, e, l.to t⟩
  | false => exact ⟨T, E, es, rfl, okT, e, l.to t⟩
theorem q_ifs {c : Expr} {a b : List Stmt} {wc : DE Bool} {wa wb : DS} {pos : Pos} (hc : PT X c (tt X.K W wc)) (ha : PSs X a (ts X.K W wa)) (hb : PSs X b (ts X.K W wb)) : PS X (.If c a b pos) (ts X.K W (wIfS wc wa wb)) := PS.imp (ps_if hc ha hb) fun _ _ _ h => ts_if h
/-- a way that is never taken -/
def wNever : DS := fun _ _ => False
theorem q_never {s : Stmt} : PS X s (ts X.K W wNever) := PS.imp ps_never fun _ _ _ h => by
  obtain ⟨S, E, rfl, rfl, ok, w, l⟩ := h
  exact w
/-! ### a slot is stored -/
def okSlot : Rho → Nat → Bool
  | [], _ => false
  | x :: _, 0 => match x with
    | some (.P _, _) => false
    | _ => true
  | _ :: r, n + 1 => okSlot r n
theorem okSlot_lt : ∀ {ρ : Rho} {i : Nat}, okSlot ρ i = true → i < ρ.length
  | [], _, h => by cases h
  | _ :: _, 0, _ => Nat.zero_lt_succ _
  | _ :: r, n + 1, h => Nat.succ_lt_succ (okSlot_lt (ρ := r) h)
def notP : Md → Bool
  | .P _ => false
  | _ => true
theorem Sx.put (S : Sx K pin G H σ ρ f) {i : Nat} {m : Md} {v : V} {d : D} {fp : List Addr} (hi : okSlot ρ i = true) (hm : notP m = true) (r : R K G H m v d fp) (n : fp.Nodup) (k : ∀ a ∈ fp, G a = none ∧ (Ow f a → a ∈ f i)) :
    Sx K pin G H (σ.set i (some v)) (ρ.set i (some (m, d))) (f.set i fp) where
  ext := S.ext
  len := by simp [S.len]
  slot := fun j m' d' e => by
    by_cases c : j = i
    · subst c
      rw [List.getElem?_set_self (okSlot_lt hi)] at e
      cases e
      refine ⟨v, ?_, ?_⟩
      · rw [List.getElem?_set_self (by rw [← S.len]; exact okSlot_lt hi)]
      · rw [Own.set_same]; exact r
    · rw [List.getElem?_set_ne (Ne.symm c)] at e
      obtain ⟨u, h1, h2⟩ := S.slot j m' d' e
      exact ⟨u, by rw [List.getElem?_set_ne (Ne.symm c)]; exact h1, by rw [Own.set_ne c]; exact h2⟩
  emp := fun j e => by
    by_cases c : j = i
    · subst c
      exact absurd (List.getElem?_set_self (okSlot_lt hi)) (e m d)
    · rw [Own.set_ne c]
      exact S.emp j fun m' d' q => e m' d' (by rw [List.getElem?_set_ne (Ne.symm c)]; exact q)
  nd := fun j => by
    by_cases c : j = i
    · subst c; rw [Own.set_same]; exact n
    · rw [Own.set_ne c]; exact S.nd j
  dj := fun j j' a h h' => by
    by_cases c : j = i
    · subst c
      by_cases c' : j' = j
      · exact c'.symm
      · rw [Own.set_same] at h
        rw [Own.set_ne c'] at h'
        exact S.dj _ _ a ((k a h).2 ⟨j', h'⟩) h'
    · rw [Own.set_ne c] at h
      by_cases c' : j' = i
      · subst c'
        rw [Own.set_same] at h'
        exact S.dj _ _ a h ((k a h').2 ⟨j, h⟩)
      · rw [Own.set_ne c'] at h'
        exact S.dj _ _ a h h'
  out := fun j a h => by
    by_cases c : j = i
    · subst c; rw [Own.set_same] at h; exact (k a h).1
    · rw [Own.set_ne c] at h; exact S.out j a h
  pins := fun j m' d' e => by
    by_cases c : j = i
    · subst c
      rw [List.getElem?_set_self (okSlot_lt hi)] at e
      cases e
      cases hm
    · rw [List.getElem?_set_ne (Ne.symm c)] at e
      obtain ⟨u, h1, h2⟩ := S.pins j m' d' e
      exact ⟨u, h1, by rw [List.getElem?_set_ne (Ne.symm c)]; exact h2⟩
/-- a slot is forgotten -/
theorem Sx.forget (S : Sx K pin G H σ ρ f) (i : Nat) : Sx K pin G H σ (ρ.set i none) (f.set i []) where
  ext := S.ext
  len := by simp [S.len]
  slot := fun j m' d' e => by
    by_cases c : j = i
    · subst c
      by_cases l : j < ρ.length
      · rw [List.getElem?_set_self l] at e; cases e
      · rw [List.getElem?_eq_none (by simpa using l)] at e; cases e
    · rw [List.getElem?_set_ne (Ne.symm c)] at e
      rw [Own.set_ne c]
      exact S.slot j m' d' e
  emp := fun j e => by
    by_cases c : j = i
    · subst c; exact Own.set_same
    · rw [Own.set_ne c]
      exact S.emp j fun m' d' q => e m' d' (by rw [List.getElem?_set_ne (Ne.symm c)]; exact q)
  nd := fun j => by
    by_cases c : j = i
    · subst c; rw [Own.set_same]; exact List.nodup_nil
    · rw [Own.set_ne c]; exact S.nd j
  dj := fun j j' a h h' => by
    by_cases c : j = i
    · subst c; rw [Own.set_same] at h; cases h
    · by_cases c' : j' = i
      · subst c'; rw [Own.set_same] at h'; cases h'
      · rw [Own.set_ne c] at h; rw [Own.set_ne c'] at h'; exact S.dj _ _ a h h'
  out := fun j a h => by
    by_cases c : j = i
    · subst c; rw [Own.set_same] at h; cases h
    · rw [Own.set_ne c] at h; exact S.out j a h
  pins := fun j m' d' e => by
    by_cases c : j = i
    · subst c
      by_cases l : j < ρ.length
      · rw [List.getElem?_set_self l] at e; cases e
      · rw [List.getElem?_eq_none (by simpa using l)] at e; cases e
    · rw [List.getElem?_set_ne (Ne.symm c)] at e
      exact S.pins j m' d' e
def Sta.put (T : Sta) (i : Nat) (v : V) (m : Md) (d : D) (fp : List Addr) : Sta := { T with σ := T.σ.set i (some v), ρ := T.ρ.set i (some (m, d)), f := T.f.set i fp }
theorem Sta.to.put (t : S.to T) {i : Nat} {v : V} {m : Md} {d : D} {fp : List Addr} (k : ∀ a ∈ fp, Nw S a) : S.to (T.put i v m d fp) where
  stp := {
    gext := t.stp.gext
    keep := t.stp.keep
    gold := t.stp.gold
    fnew := fun a h => by
      obtain ⟨j, hj⟩ := h
      by_cases c : j = i
      · subst c
        have hj' : a ∈ T.f.set j fp j := hj
        rw [Own.set_same] at hj'; exact k a hj'
      · have hj' : a ∈ T.f.set i fp j := hj
        rw [Own.set_ne c] at hj'; exact t.stp.fnew a ⟨j, hj'⟩
    trk := t.stp.trk }
  pin := t.pin
def putK (i : Nat) (x : Kd × D) (ρ : Rho) (q : Rho → Prop) : Prop := match x.1 with
  | .fz => q (ρ.set i (some (.F, x.2)))
  | .new m => notP m = true ∧ q (ρ.set i (some (m, x.2)))
  | .bor _ _ _ => False
def wSet (i : Nat) (we : DE (Kd × D)) : DS := fun E ρ => we ρ ⟨fun _ x ρ' => okSlot ρ' i = true ∧ putK i x ρ' E.nx, E.ex⟩
theorem ts_set {i : Nat} {we : DE (Kd × D)} (h : ts K W (wSet i we) Z σ H) : tAsg (te K W we) (gName i) Z σ H := by
  obtain ⟨S, E, rfl, rfl, ok, w, l⟩ := h
  refine te_in ok l w fun p x T e es okT t _ v hv => ?_
  obtain ⟨kd, d⟩ := x
  show Z.nx (S.σ.set i (some v)) T.H
  rw [← es]
  cases kd with
  | fz => exact l.nx (T.put i v .F d []) e.2 (Sx.put okT e.1 rfl (.F hv) List.nodup_nil fun _ h => nomatch h) (t.put fun _ h => nomatch h)
  | new m =>
    obtain ⟨fp, r, n, k⟩ := hv
    exact l.nx (T.put i v m d fp) e.2.2 (Sx.put okT e.1 e.2.1 r n fun a h => ⟨(k a h).1, fun z => absurd z (k a h).2.1⟩) (t.put fun a h => (k a h).2.2)
  | bor j q m => exact e.2.elim
theorem q_set {i : Nat} {x : Str} {e : Expr} {we : DE (Kd × D)} {pos pos' : Pos} (hN : X.N.Nodup) (he : PE X e (te X.K W we)) (hi : X.N[i]? = some x := by rfl) (hx : Loc X.env.scope x := by first | exact Or.inl rfl | exact Or.inr rfl) (hs : swapsWith e (some (.Name x pos')) pos.line X.env = pure false := by rfl) (hf : X.fn x = true ∨ X.env.scope.names.lookup x = some .local := by first | exact .inl rfl | exact .inr rfl | assumption) :
    PS X (.Assign [.Name x pos'] e pos) (ts X.K W (wSet i we)) := PS.imp (ps_set hN hi hx he hs hf) fun _ _ _ h => ts_set h
/-- x op= e -/
def wAug (i : Nat) (o : O2) (we : DE (Kd × D)) : DS := wSet i (wOp o (wVar i) we)
end
end VL

namespace VL
open PySem PySem.Spec PyProof.Rows L2
section
variable {K : PySem.W.Frag} {W : WX} {G G' H H' H0 : Hp} {σ : L2.St} {ρ : Rho} {f f' : Own} {pin : Nat → Option V} {X : Cx} {S S0 S1 T T1 T2 U : Sta} {E : En} {Z : Ends}

/-! ### a part of an owned thing is changed -/
theorem RA.lens {m : Md} : ∀ {xs : List V} {ds : List D} {fp : List Addr} {j : Nat} {x : V} {d : D}, RA K G H m xs ds fp → fp.Nodup → xs[j]? = some x → ds[j]? = some d →
    ∃ fq, R K G H m x d fq ∧ fq.Nodup ∧ (∀ a ∈ fq, a ∈ fp) ∧ ∀ (G' H' : Hp) (d' : D) (fq' : List Addr), Ex G G' → (∀ a ∈ fp, a ∉ fq → H' a = H a) → R K G' H' m x d' fq' → fq'.Nodup → (∀ a ∈ fq', a ∈ fq ∨ a ∉ fp) →
      ∃ fr, RA K G' H' m xs (ds.set j d') fr ∧ fr.Nodup ∧ ∀ a ∈ fr, (a ∈ fp ∧ a ∉ fq) ∨ a ∈ fq'
  | _, _, _, _, _, _, .nil, _, h, _ => by simp at h
  | _, _, _, 0, _, _, .cons (fp := fp) (fq := fq) r t, n, h, h' => by
    simp at h h'; subst h; subst h'
    have n' := List.nodup_append.mp n
    refine ⟨fp, r, n'.1, fun a ha => List.mem_append_left _ ha, fun G' H' d' fq' e k r' nq hq => ?_⟩
    have kt : ∀ a ∈ fq, ∀ o, H a = some o → H' a = some o := fun a ha o q => by
      rw [k a (List.mem_append_right _ ha) fun z => n'.2.2 a z a ha rfl]; exact q
    refine ⟨fq' ++ fq, .cons r' (t.keep e kt), List.nodup_append.mpr ⟨nq, n'.2.1, fun a ha b hb c => ?_⟩, fun a ha => ?_⟩
    · subst c
      rcases hq a ha with z | z
      · exact n'.2.2 a z a hb rfl
      · exact z (List.mem_append_right _ hb)
    · rcases List.mem_append.mp ha with z | z
      · exact .inr z
      · exact .inl ⟨List.mem_append_right _ z, fun c => n'.2.2 a c a z rfl⟩
  | _, _, _, j + 1, _, _, .cons (fp := fp) (fq := fq) r t, n, h, h' => by
    have n' := List.nodup_append.mp n
    obtain ⟨fs, r1, n1, s1, k1⟩ := RA.lens t n'.2.1 (j := j) (by simpa using h) (by simpa using h')
    refine ⟨fs, r1, n1, fun a ha => List.mem_append_right _ (s1 a ha), fun G' H' d' fq' e k r' nq hq => ?_⟩
    obtain ⟨fr, r2, n2, s2⟩ := k1 G' H' d' fq' e (fun a ha hn => k a (List.mem_append_right _ ha) hn) r' nq (fun a ha => (hq a ha).imp_right fun z c => z (List.mem_append_right _ c))
    have kt : ∀ a ∈ fp, ∀ o, H a = some o → H' a = some o := fun a ha o q => by
      rw [k a (List.mem_append_left _ ha) fun z => n'.2.2 a ha a (s1 a z) rfl]; exact q
    refine ⟨fp ++ fr, .cons (r.keep e kt) r2, List.nodup_append.mpr ⟨n'.1, n2, fun a ha b hb c => ?_⟩, fun a ha => ?_⟩
    · subst c
      rcases s2 a hb with z | z
      · exact n'.2.2 a ha a z.1 rfl
      · rcases hq a z with q | q
        · exact n'.2.2 a ha a (s1 a q) rfl
        · exact q (List.mem_append_left _ ha)
    · rcases List.mem_append.mp ha with z | z
      · exact .inl ⟨List.mem_append_left _ z, fun c => n'.2.2 a z a (s1 a c) rfl⟩
      · exact (s2 a z).imp_left fun q => ⟨List.mem_append_right _ q.1, q.2⟩
theorem names_mod {β γ : Type} : ∀ {ds : List (β × γ)} {j : Nat} {d' : γ}, (ds.modify j fun y => (y.1, d')).map (·.1) = ds.map (·.1)
  | [], j, _ => by cases j <;> rfl
  | _ :: _, 0, _ => rfl
  | x :: ds, j + 1, d' => by simp [List.modify_succ_cons, names_mod (ds := ds)]
theorem RS.lens : ∀ {ms : List Md} {xs : List V} {ds : List D} {fp : List Addr} {j : Nat} {m : Md} {x : V} {d : D}, RS K G H ms xs ds fp → fp.Nodup → ms[j]? = some m → xs[j]? = some x → ds[j]? = some d →
    ∃ fq, R K G H m x d fq ∧ fq.Nodup ∧ (∀ a ∈ fq, a ∈ fp) ∧ ∀ (G' H' : Hp) (d' : D) (fq' : List Addr), Ex G G' → (∀ a ∈ fp, a ∉ fq → H' a = H a) → R K G' H' m x d' fq' → fq'.Nodup → (∀ a ∈ fq', a ∈ fq ∨ a ∉ fp) →
      ∃ fr, RS K G' H' ms xs (ds.set j d') fr ∧ fr.Nodup ∧ ∀ a ∈ fr, (a ∈ fp ∧ a ∉ fq) ∨ a ∈ fq'
  | _, _, _, _, _, _, _, _, .nil, _, h, _, _ => by simp at h
  | _, _, _, _, 0, _, _, _, .cons (fp := fp) (fq := fq) r t, n, h0, h, h' => by
    simp at h0 h h'
    subst h0; subst h; subst h'
    have n' := List.nodup_append.mp n
    refine ⟨fp, r, n'.1, fun a ha => List.mem_append_left _ ha, fun G' H' d' fq' e k r' nq hq => ?_⟩
    have kt : ∀ a ∈ fq, ∀ o, H a = some o → H' a = some o := fun a ha o q => by
      rw [k a (List.mem_append_right _ ha) fun z => n'.2.2 a z a ha rfl]; exact q
    refine ⟨fq' ++ fq, by simpa using RS.cons r' (t.keep e kt), List.nodup_append.mpr ⟨nq, n'.2.1, fun a ha b hb c => ?_⟩, fun a ha => ?_⟩
    · subst c
      rcases hq a ha with z | z
      · exact n'.2.2 a z a hb rfl
      · exact z (List.mem_append_right _ hb)
    · rcases List.mem_append.mp ha with z | z
      · exact .inr z
      · exact .inl ⟨List.mem_append_right _ z, fun c => n'.2.2 a c a z rfl⟩
  | _, _, _, _, j + 1, _, _, _, .cons (fp := fp) (fq := fq) r t, n, h0, h, h' => by
    have n' := List.nodup_append.mp n
    obtain ⟨fs, r1, n1, s1, k1⟩ := RS.lens t n'.2.1 (j := j) (by simpa using h0) (by simpa using h) (by simpa using h')
    refine ⟨fs, r1, n1, fun a ha => List.mem_append_right _ (s1 a ha), fun G' H' d' fq' e k r' nq hq => ?_⟩
    obtain ⟨fr, r2, n2, s2⟩ := k1 G' H' d' fq' e (fun a ha hn => k a (List.mem_append_right _ ha) hn) r' nq (fun a ha => (hq a ha).imp_right fun z c => z (List.mem_append_right _ c))
    have kt : ∀ a ∈ fp, ∀ o, H a = some o → H' a = some o := fun a ha o q => by
      rw [k a (List.mem_append_left _ ha) fun z => n'.2.2 a ha a (s1 a z) rfl]; exact q
    refine ⟨fp ++ fr, by simpa using RS.cons (r.keep e kt) r2, List.nodup_append.mpr ⟨n'.1, n2, fun a ha b hb c => ?_⟩, fun a ha => ?_⟩
    · subst c
      rcases s2 a hb with z | z
      · exact n'.2.2 a ha a z.1 rfl
      · rcases hq a z with q | q
        · exact n'.2.2 a ha a (s1 a q) rfl
        · exact q (List.mem_append_left _ ha)
    · rcases List.mem_append.mp ha with z | z
      · exact .inl ⟨List.mem_append_left _ z, fun c => n'.2.2 a z a (s1 a c) rfl⟩
      · exact (s2 a z).imp_left fun q => ⟨List.mem_append_right _ q.1, q.2⟩
theorem RF.lens : ∀ {ms : List Md} {xs : List (Str × V)} {ds : List (Str × D)} {fp : List Addr} {j : Nat} {m : Md} {k k' : Str} {x : V} {d : D}, RF K G H ms xs ds fp → fp.Nodup → ms[j]? = some m → xs[j]? = some (k, x) → ds[j]? = some (k', d) →
    ∃ fq, R K G H m x d fq ∧ fq.Nodup ∧ (∀ a ∈ fq, a ∈ fp) ∧ ∀ (G' H' : Hp) (d' : D) (fq' : List Addr), Ex G G' → (∀ a ∈ fp, a ∉ fq → H' a = H a) → R K G' H' m x d' fq' → fq'.Nodup → (∀ a ∈ fq', a ∈ fq ∨ a ∉ fp) →
      ∃ fr, RF K G' H' ms xs (ds.modify j fun y => (y.1, d')) fr ∧ fr.Nodup ∧ ∀ a ∈ fr, (a ∈ fp ∧ a ∉ fq) ∨ a ∈ fq'
  | _, _, _, _, _, _, _, _, _, _, .nil, _, h, _, _ => by simp at h
  | _, _, _, _, 0, _, _, _, _, _, .cons (fp := fp) (fq := fq) r t, n, h0, h, h' => by
    simp at h0 h h'
    obtain ⟨rfl, rfl⟩ := h
    obtain ⟨rfl, rfl⟩ := h'
    subst h0
    have n' := List.nodup_append.mp n
    refine ⟨fp, r, n'.1, fun a ha => List.mem_append_left _ ha, fun G' H' d' fq' e k r' nq hq => ?_⟩
    have kt : ∀ a ∈ fq, ∀ o, H a = some o → H' a = some o := fun a ha o q => by
      rw [k a (List.mem_append_right _ ha) fun z => n'.2.2 a z a ha rfl]; exact q
    refine ⟨fq' ++ fq, by simpa using RF.cons r' (t.keep e kt), List.nodup_append.mpr ⟨nq, n'.2.1, fun a ha b hb c => ?_⟩, fun a ha => ?_⟩
    · subst c
      rcases hq a ha with z | z
      · exact n'.2.2 a z a hb rfl
      · exact z (List.mem_append_right _ hb)
    · rcases List.mem_append.mp ha with z | z
      · exact .inr z
      · exact .inl ⟨List.mem_append_right _ z, fun c => n'.2.2 a c a z rfl⟩
  | _, _, _, _, j + 1, _, _, _, _, _, .cons (fp := fp) (fq := fq) r t, n, h0, h, h' => by
    have n' := List.nodup_append.mp n
    obtain ⟨fs, r1, n1, s1, k1⟩ := RF.lens t n'.2.1 (j := j) (by simpa using h0) (by simpa using h) (by simpa using h')
    refine ⟨fs, r1, n1, fun a ha => List.mem_append_right _ (s1 a ha), fun G' H' d' fq' e k r' nq hq => ?_⟩
    obtain ⟨fr, r2, n2, s2⟩ := k1 G' H' d' fq' e (fun a ha hn => k a (List.mem_append_right _ ha) hn) r' nq (fun a ha => (hq a ha).imp_right fun z c => z (List.mem_append_right _ c))
    have kt : ∀ a ∈ fp, ∀ o, H a = some o → H' a = some o := fun a ha o q => by
      rw [k a (List.mem_append_left _ ha) fun z => n'.2.2 a ha a (s1 a z) rfl]; exact q
    refine ⟨fp ++ fr, by simpa using RF.cons (r.keep e kt) r2, List.nodup_append.mpr ⟨n'.1, n2, fun a ha b hb c => ?_⟩, fun a ha => ?_⟩
    · subst c
      rcases s2 a hb with z | z
      · exact n'.2.2 a ha a z.1 rfl
      · rcases hq a z with q | q
        · exact n'.2.2 a ha a (s1 a q) rfl
        · exact q (List.mem_append_left _ ha)
    · rcases List.mem_append.mp ha with z | z
      · exact .inl ⟨List.mem_append_left _ z, fun c => n'.2.2 a z a (s1 a c) rfl⟩
      · exact (s2 a z).imp_left fun q => ⟨List.mem_append_right _ q.1, q.2⟩
theorem RK.lens : ∀ {m : Md} {xs : List (Key × V)} {ds : List (Key × D)} {fp : List Addr} {j : Nat} {k k' : Key} {x : V} {d : D}, RK K G H m xs ds fp → fp.Nodup → xs[j]? = some (k, x) → ds[j]? = some (k', d) →
    ∃ fq, R K G H m x d fq ∧ fq.Nodup ∧ (∀ a ∈ fq, a ∈ fp) ∧ ∀ (G' H' : Hp) (d' : D) (fq' : List Addr), Ex G G' → (∀ a ∈ fp, a ∉ fq → H' a = H a) → R K G' H' m x d' fq' → fq'.Nodup → (∀ a ∈ fq', a ∈ fq ∨ a ∉ fp) →
      ∃ fr, RK K G' H' m xs (ds.modify j fun y => (y.1, d')) fr ∧ fr.Nodup ∧ ∀ a ∈ fr, (a ∈ fp ∧ a ∉ fq) ∨ a ∈ fq'
  | _, _, _, _, _, _, _, _, _, .nil, _, h, _ => by simp at h
  | _, _, _, _, 0, _, _, _, _, .cons (fp := fp) (fq := fq) r t, n, h, h' => by
    simp at h h'
    obtain ⟨rfl, rfl⟩ := h
    obtain ⟨rfl, rfl⟩ := h'
    have n' := List.nodup_append.mp n
    refine ⟨fp, r, n'.1, fun a ha => List.mem_append_left _ ha, fun G' H' d' fq' e k r' nq hq => ?_⟩
    have kt : ∀ a ∈ fq, ∀ o, H a = some o → H' a = some o := fun a ha o q => by
      rw [k a (List.mem_append_right _ ha) fun z => n'.2.2 a z a ha rfl]; exact q
    refine ⟨fq' ++ fq, by simpa using RK.cons r' (t.keep e kt), List.nodup_append.mpr ⟨nq, n'.2.1, fun a ha b hb c => ?_⟩, fun a ha => ?_⟩
    · subst c
      rcases hq a ha with z | z
      · exact n'.2.2 a z a hb rfl
      · exact z (List.mem_append_right _ hb)
    · rcases List.mem_append.mp ha with z | z
      · exact .inr z
      · exact .inl ⟨List.mem_append_right _ z, fun c => n'.2.2 a c a z rfl⟩
  | _, _, _, _, j + 1, _, _, _, _, .cons (fp := fp) (fq := fq) r t, n, h, h' => by
    have n' := List.nodup_append.mp n
    obtain ⟨fs, r1, n1, s1, k1⟩ := RK.lens t n'.2.1 (j := j) (by simpa using h) (by simpa using h')
    refine ⟨fs, r1, n1, fun a ha => List.mem_append_right _ (s1 a ha), fun G' H' d' fq' e k r' nq hq => ?_⟩
    obtain ⟨fr, r2, n2, s2⟩ := k1 G' H' d' fq' e (fun a ha hn => k a (List.mem_append_right _ ha) hn) r' nq (fun a ha => (hq a ha).imp_right fun z c => z (List.mem_append_right _ c))
    have kt : ∀ a ∈ fp, ∀ o, H a = some o → H' a = some o := fun a ha o q => by
      rw [k a (List.mem_append_left _ ha) fun z => n'.2.2 a ha a (s1 a z) rfl]; exact q
    refine ⟨fp ++ fr, by simpa using RK.cons (r.keep e kt) r2, List.nodup_append.mpr ⟨n'.1, n2, fun a ha b hb c => ?_⟩, fun a ha => ?_⟩
    · subst c
      rcases s2 a hb with z | z
      · exact n'.2.2 a ha a z.1 rfl
      · rcases hq a z with q | q
        · exact n'.2.2 a ha a (s1 a q) rfl
        · exact q (List.mem_append_left _ ha)
    · rcases List.mem_append.mp ha with z | z
      · exact .inl ⟨List.mem_append_left _ z, fun c => n'.2.2 a z a (s1 a c) rfl⟩
      · exact (s2 a z).imp_left fun q => ⟨List.mem_append_right _ q.1, q.2⟩
theorem R.lens : ∀ (xt : Ex G H) {p : List Nat} {m0 m : Md} {v0 v : V} {d0 d : D} {fp : List Addr}, R K G H m0 v0 d0 fp → fp.Nodup → Rch H v0 p v → mAt m0 p = some m → dAt d0 p = some d →
    ∃ fq, R K G H m v d fq ∧ fq.Nodup ∧ (∀ a ∈ fq, a ∈ fp) ∧ ∀ (G' H' : Hp) (d' : D) (fq' : List Addr), Ex G G' → (∀ a ∈ fp, a ∉ fq → H' a = H a) → R K G' H' m v d' fq' → fq'.Nodup → (∀ a ∈ fq', a ∈ fq ∨ a ∉ fp) →
      ∃ fr, R K G' H' m0 v0 (dSet d0 p d') fr ∧ fr.Nodup ∧ ∀ a ∈ fr, (a ∈ fp ∧ a ∉ fq) ∨ a ∈ fq'
  | xt, [], _, _, _, _, _, _, _, r, n, c, e1, e2 => by
    cases c
    cases e1; cases e2
    exact ⟨_, r, n, fun _ h => h, fun G' H' d' fq' _ _ r' nq _ => ⟨fq', r', nq, fun _ h => .inr h⟩⟩
  | xt, j :: p, m0, m, v0, v, d0, d, fp, r, n, c, e1, e2 => by
    cases c with
    | @lst a _ _ _ _ _ h i t =>
      cases r with
      | F h => simp [mAt, mKid] at e1
      | P h => simp [mAt, mKid] at e1
      | K h t => rename_i h' _ _ _; rw [h] at h'; cases h'
      | N h' t' => rw [h] at h'; cases h'
      | M h' t' => rw [h] at h'; cases h'
      | O h' n' t' => rw [h] at h'; cases h'
      | T h' t' => have h' := xt _ _ h'; rw [h] at h'; cases h'
      | A h' t' =>
        rw [h] at h'; cases h'
        simp only [mAt, mKid] at e1
        simp only [dAt, dKid] at e2
        have nn := List.nodup_cons.mp n
        split at e1
        · rename_i m1 em
          split at e2
          · rename_i d1 ed
            obtain ⟨fq, r1, n1, s1, k1⟩ := RS.lens t' nn.2 em i ed
            obtain ⟨fs, r2, n2, s2, k2⟩ := R.lens xt r1 n1 t e1 e2
            refine ⟨fs, r2, n2, fun b hb => List.mem_cons_of_mem _ (s1 b (s2 b hb)), fun G' H' d' fq' e k r' nq hq => ?_⟩
            obtain ⟨fr, r3, n3, s3⟩ := k2 G' H' d' fq' e (fun b hb hn => k b (List.mem_cons_of_mem _ (s1 b hb)) hn) r' nq (fun b hb => (hq b hb).imp_right fun z c => z (List.mem_cons_of_mem _ (s1 b c)))
            obtain ⟨ft, r4, n4, s4⟩ := k1 G' H' _ fr e (fun b hb hn => k b (List.mem_cons_of_mem _ hb) fun z => hn (s2 b z)) r3 n3 (fun b hb => by
              rcases s3 b hb with z | z
              · exact .inl z.1
              · rcases hq b z with q | q
                · exact .inl (s2 b q)
                · exact .inr fun c => q (List.mem_cons_of_mem _ c))
            have ha : H' a = H a := k a List.mem_cons_self fun z => nn.1 (s1 a (s2 a z))
            refine ⟨a :: ft, ?_, List.nodup_cons.mpr ⟨fun z => ?_, n4⟩, fun b hb => ?_⟩
            · simp only [dSet, dKid, ed, setKid]
              exact .A (by rw [ha]; exact h) r4
            · rcases s4 a z with q | q
              · exact nn.1 q.1
              · rcases s3 a q with q | q
                · exact nn.1 (s1 a q.1)
                · rcases hq a q with q | q
                  · exact nn.1 (s1 a (s2 a q))
                  · exact q List.mem_cons_self
            · rcases List.mem_cons.mp hb with rfl | hb
              · exact .inl ⟨List.mem_cons_self, fun z => nn.1 (s1 _ (s2 _ z))⟩
              · rcases s4 b hb with q | q
                · exact .inl ⟨List.mem_cons_of_mem _ q.1, fun z => q.2 (s2 b z)⟩
                · exact (s3 b q).imp_left fun q => ⟨List.mem_cons_of_mem _ (s1 b q.1), q.2⟩
          · cases e2
        · cases e1
      | L h' t' =>
        rw [h] at h'; cases h'
        simp only [mAt, mKid] at e1
        simp only [dAt, dKid] at e2
        have nn := List.nodup_cons.mp n
        split at e2
        · rename_i d1 ed
          obtain ⟨fq, r1, n1, s1, k1⟩ := RA.lens t' nn.2 i ed
          obtain ⟨fs, r2, n2, s2, k2⟩ := R.lens xt r1 n1 t e1 e2
          refine ⟨fs, r2, n2, fun b hb => List.mem_cons_of_mem _ (s1 b (s2 b hb)), fun G' H' d' fq' e k r' nq hq => ?_⟩
          obtain ⟨fr, r3, n3, s3⟩ := k2 G' H' d' fq' e (fun b hb hn => k b (List.mem_cons_of_mem _ (s1 b hb)) hn) r' nq (fun b hb => (hq b hb).imp_right fun z c => z (List.mem_cons_of_mem _ (s1 b c)))
          obtain ⟨ft, r4, n4, s4⟩ := k1 G' H' _ fr e (fun b hb hn => k b (List.mem_cons_of_mem _ hb) fun z => hn (s2 b z)) r3 n3 (fun b hb => by
            rcases s3 b hb with z | z
            · exact .inl z.1
            · rcases hq b z with q | q
              · exact .inl (s2 b q)
              · exact .inr fun c => q (List.mem_cons_of_mem _ c))
          have ha : H' a = H a := k a List.mem_cons_self fun z => nn.1 (s1 a (s2 a z))
          refine ⟨a :: ft, ?_, List.nodup_cons.mpr ⟨fun z => ?_, n4⟩, fun b hb => ?_⟩
          · simp only [dSet, dKid, ed, setKid]
            exact .L (by rw [ha]; exact h) r4
          · rcases s4 a z with q | q
            · exact nn.1 q.1
            · rcases s3 a q with q | q
              · exact nn.1 (s1 a q.1)
              · rcases hq a q with q | q
                · exact nn.1 (s1 a (s2 a q))
                · exact q List.mem_cons_self
          · rcases List.mem_cons.mp hb with rfl | hb
            · exact .inl ⟨List.mem_cons_self, fun z => nn.1 (s1 _ (s2 _ z))⟩
            · rcases s4 b hb with q | q
              · exact .inl ⟨List.mem_cons_of_mem _ q.1, fun z => q.2 (s2 b z)⟩
              · exact (s3 b q).imp_left fun q => ⟨List.mem_cons_of_mem _ (s1 b q.1), q.2⟩
        · cases e2
    | @ins a _ _ _ _ _ _ _ _ h i t =>
      cases r with
      | F h => simp [mAt, mKid] at e1
      | P h => simp [mAt, mKid] at e1
      | K h t => rename_i h' _ _ _; rw [h] at h'; cases h'
      | N h' t' => rw [h] at h'; cases h'
      | M h' t' => rw [h] at h'; cases h'
      | L h' t' => rw [h] at h'; cases h'
      | T h' t' => have h' := xt _ _ h'; rw [h] at h'; cases h'
      | A h' t' => rw [h] at h'; cases h'
      | O h' n' t' =>
        rw [h] at h'; cases h'
        simp only [mAt, mKid] at e1
        simp only [dAt, dKid] at e2
        have nn := List.nodup_cons.mp n
        split at e1
        · rename_i m1 em
          split at e2
          · rename_i d1 ed
            have ed0 := ed
            split at ed
            · rename_i y ey
              cases ed
              obtain ⟨fq, r1, n1, s1, k1⟩ := RF.lens t' nn.2 em i (show _ = some (y.1, y.2) from ey)
              obtain ⟨fs, r2, n2, s2, k2⟩ := R.lens xt r1 n1 t e1 e2
              refine ⟨fs, r2, n2, fun b hb => List.mem_cons_of_mem _ (s1 b (s2 b hb)), fun G' H' d' fq' e k r' nq hq => ?_⟩
              obtain ⟨fr, r3, n3, s3⟩ := k2 G' H' d' fq' e (fun b hb hn => k b (List.mem_cons_of_mem _ (s1 b hb)) hn) r' nq (fun b hb => (hq b hb).imp_right fun z c => z (List.mem_cons_of_mem _ (s1 b c)))
              obtain ⟨ft, r4, n4, s4⟩ := k1 G' H' _ fr e (fun b hb hn => k b (List.mem_cons_of_mem _ hb) fun z => hn (s2 b z)) r3 n3 (fun b hb => by
                rcases s3 b hb with z | z
                · exact .inl z.1
                · rcases hq b z with q | q
                  · exact .inl (s2 b q)
                  · exact .inr fun c => q (List.mem_cons_of_mem _ c))
              have ha : H' a = H a := k a List.mem_cons_self fun z => nn.1 (s1 a (s2 a z))
              refine ⟨a :: ft, ?_, List.nodup_cons.mpr ⟨fun z => ?_, n4⟩, fun b hb => ?_⟩
              · simp only [dSet, dKid, ed0, setKid]
                exact .O (by rw [ha]; exact h) (by rw [names_mod]; exact n') r4
              · rcases s4 a z with q | q
                · exact nn.1 q.1
                · rcases s3 a q with q | q
                  · exact nn.1 (s1 a q.1)
                  · rcases hq a q with q | q
                    · exact nn.1 (s1 a (s2 a q))
                    · exact q List.mem_cons_self
              · rcases List.mem_cons.mp hb with rfl | hb
                · exact .inl ⟨List.mem_cons_self, fun z => nn.1 (s1 _ (s2 _ z))⟩
                · rcases s4 b hb with q | q
                  · exact .inl ⟨List.mem_cons_of_mem _ q.1, fun z => q.2 (s2 b z)⟩
                  · exact (s3 b q).imp_left fun q => ⟨List.mem_cons_of_mem _ (s1 b q.1), q.2⟩
            · cases ed
          · cases e2
        · cases e1
    | @dK a _ _ _ _ _ _ h i t =>
      cases r with
      | F h => simp [mAt, mKid] at e1
      | P h => simp [mAt, mKid] at e1
      | K h t => simp [mAt, mKid] at e1
      | N h t => simp [mAt, mKid] at e1
      | O h' n' t' => rw [h] at h'; cases h'
      | L h' t' => rw [h] at h'; cases h'
      | T h' t' => have h' := xt _ _ h'; rw [h] at h'; cases h'
      | A h' t' => rw [h] at h'; cases h'
      | M h' t' =>
        rw [h] at h'; cases h'
        simp only [mAt, mKid] at e1
        simp only [dAt, dKid] at e2
        have nn := List.nodup_cons.mp n
        split at e2
        · rename_i d1 ed
          have ed0 := ed
          split at ed
          · rename_i y ey
            cases ed
            obtain ⟨fq, r1, n1, s1, k1⟩ := RK.lens t' nn.2 i (show _ = some (y.1, y.2) from ey)
            obtain ⟨fs, r2, n2, s2, k2⟩ := R.lens xt r1 n1 t e1 e2
            refine ⟨fs, r2, n2, fun b hb => List.mem_cons_of_mem _ (s1 b (s2 b hb)), fun G' H' d' fq' e k r' nq hq => ?_⟩
            obtain ⟨fr, r3, n3, s3⟩ := k2 G' H' d' fq' e (fun b hb hn => k b (List.mem_cons_of_mem _ (s1 b hb)) hn) r' nq (fun b hb => (hq b hb).imp_right fun z c => z (List.mem_cons_of_mem _ (s1 b c)))
            obtain ⟨ft, r4, n4, s4⟩ := k1 G' H' _ fr e (fun b hb hn => k b (List.mem_cons_of_mem _ hb) fun z => hn (s2 b z)) r3 n3 (fun b hb => by
              rcases s3 b hb with z | z
              · exact .inl z.1
              · rcases hq b z with q | q
                · exact .inl (s2 b q)
                · exact .inr fun c => q (List.mem_cons_of_mem _ c))
            have ha : H' a = H a := k a List.mem_cons_self fun z => nn.1 (s1 a (s2 a z))
            refine ⟨a :: ft, ?_, List.nodup_cons.mpr ⟨fun z => ?_, n4⟩, fun b hb => ?_⟩
            · simp only [dSet, dKid, ed0, setKid]
              exact .M (by rw [ha]; exact h) r4
            · rcases s4 a z with q | q
              · exact nn.1 q.1
              · rcases s3 a q with q | q
                · exact nn.1 (s1 a q.1)
                · rcases hq a q with q | q
                  · exact nn.1 (s1 a (s2 a q))
                  · exact q List.mem_cons_self
            · rcases List.mem_cons.mp hb with rfl | hb
              · exact .inl ⟨List.mem_cons_self, fun z => nn.1 (s1 _ (s2 _ z))⟩
              · rcases s4 b hb with q | q
                · exact .inl ⟨List.mem_cons_of_mem _ q.1, fun z => q.2 (s2 b z)⟩
                · exact (s3 b q).imp_left fun q => ⟨List.mem_cons_of_mem _ (s1 b q.1), q.2⟩
          · cases ed
        · cases e2
    | @tup a _ _ _ _ _ h i t =>
      cases r with
      | F h => simp [mAt, mKid] at e1
      | P h => simp [mAt, mKid] at e1
      | K h t => rename_i h' _ _ _; rw [h] at h'; cases h'
      | N h' t' => rw [h] at h'; cases h'
      | M h' t' => rw [h] at h'; cases h'
      | L h' t' => rw [h] at h'; cases h'
      | O h' n' t' => rw [h] at h'; cases h'
      | A h' t' => rw [h] at h'; cases h'
      | T h' t' =>
        have hx := xt _ _ h'
        rw [h] at hx; cases hx
        simp only [mAt, mKid] at e1
        simp only [dAt, dKid] at e2
        split at e1
        · rename_i m1 em
          split at e2
          · rename_i d1 ed
            obtain ⟨fq, r1, n1, s1, k1⟩ := RS.lens t' n em i ed
            obtain ⟨fs, r2, n2, s2, k2⟩ := R.lens xt r1 n1 t e1 e2
            refine ⟨fs, r2, n2, fun b hb => s1 b (s2 b hb), fun G' H' d' fq' e k r' nq hq => ?_⟩
            obtain ⟨fr, r3, n3, s3⟩ := k2 G' H' d' fq' e (fun b hb hn => k b (s1 b hb) hn) r' nq (fun b hb => (hq b hb).imp_right fun z c => z (s1 b c))
            obtain ⟨ft, r4, n4, s4⟩ := k1 G' H' _ fr e (fun b hb hn => k b hb fun z => hn (s2 b z)) r3 n3 (fun b hb => by
              rcases s3 b hb with z | z
              · exact .inl z.1
              · rcases hq b z with q | q
                · exact .inl (s2 b q)
                · exact .inr q)
            refine ⟨ft, ?_, n4, fun b hb => ?_⟩
            · simp only [dSet, dKid, ed, setKid]
              exact .T (e _ _ h') r4
            · rcases s4 b hb with q | q
              · exact .inl ⟨q.1, fun z => q.2 (s2 b z)⟩
              · exact (s3 b q).imp_left fun q => ⟨s1 b q.1, q.2⟩
          · cases e2
        · cases e1
end
end VL

namespace VL
open PySem PySem.Spec PyProof.Rows L2
/-! ### the promise of a def -/
structure Pf where
  ok : Kd × D → List D → Prop
  ex : Addr → List (Str × D) → List D → Prop
abbrev DF := List D → Pf → Prop
def zr : List Md → List D → Rho
  | m :: ms, d :: ds => some (m, d) :: zr ms ds
  | _, _ => []
def retK : Kd → Bool
  | .bor _ _ _ => false
  | _ => true
/-- ms: how the parameters are held ahead, ms' behind: F frozen, P m the caller's own -/
def spV (K : PySem.W.Frag) (ms ms' : List Md) (Wf : DF) : Sp := fun vs H Q E =>
  ∃ (S : Sta) (ds : List D) (P : Pf), S.H = H ∧ S.σ = vs.map some ∧ S.pin = (fun i => vs[i]?) ∧ vs.length = ms.length ∧ ds.length = ms.length ∧ S.ρ = zr ms ds ∧ S.ok K ∧ Wf ds P ∧
    (∀ x ds' (T : Sta), P.ok x ds' → ds'.length = ms'.length → T.σ = vs.map some → T.ρ = zr ms' ds' → T.ok K → S.to T → retK x.1 = true → ∀ v : V, Has K S T x.1 v x.2 → Q v T.H) ∧
    (∀ C fl ds' (T : Sta), P.ex C fl ds' → ds'.length = ms'.length → T.σ = vs.map some → T.ρ = zr ms' ds' → T.ok K → S.to T → ∀ dd : Option Addr, XD K T.G T.H dd fl → E (.ref C) dd T.H)
def finK : List Md → List D → Rho → (List D → Prop) → Prop
  | [], _, _, q => q []
  | .P m :: ms, _ :: ds, some (.P m', d) :: ρ, q => m' = m ∧ finK ms ds ρ fun r => q (d :: r)
  | .F :: ms, d :: ds, _ :: ρ, q => finK ms ds ρ fun r => q (d :: r)
  | _, _, _, _ => False
def mOk : List Md → List Md → Bool
  | [], [] => true
  | .F :: ms, .F :: ms' => mOk ms ms'
  | .P _ :: ms, .P _ :: ms' => mOk ms ms'
  | _, _ => false
def endsOf (ms' : List Md) (ds : List D) (P : Pf) : En where
  nx := fun ρ => finK ms' ds ρ fun ds' => P.ok (.fz, .non) ds'
  rt := fun x ρ => retK x.1 = true ∧ finK ms' ds ρ fun ds' => P.ok x ds'
  bk := fun _ => False
  ct := fun _ => False
  ex := fun C fl ρ => finK ms' ds ρ fun ds' => P.ex C fl ds'
section
variable {K : PySem.W.Frag} {W : WX} {G G' H H' H0 : Hp} {σ : L2.St} {ρ : Rho} {f f' : Own} {pin : Nat → Option V} {X : Cx} {S S0 S1 T T1 T2 U : Sta} {E : En} {Z : Ends}
theorem mOk_len : ∀ {ms ms' : List Md}, mOk ms ms' = true → ms'.length = ms.length
  | [], [], _ => rfl
  | .F :: ms, .F :: ms', h => by simp [mOk_len (ms := ms) (ms' := ms') h]
  | .P _ :: ms, .P _ :: ms', h => by simp [mOk_len (ms := ms) (ms' := ms') h]
theorem zr_get : ∀ {ms : List Md} {ds : List D} {k : Nat} {m : Md} {d : D}, (zr ms ds)[k]? = some (some (m, d)) ↔ ms[k]? = some m ∧ ds[k]? = some d
  | [], _, k, m, d => by simp [zr]
  | _ :: _, [], k, m, d => by simp [zr]
  | m' :: ms, d' :: ds, 0, m, d => by simp [zr]
  | m' :: ms, d' :: ds, k + 1, m, d => by simp [zr]; exact zr_get
theorem zr_len : ∀ {ms : List Md} {ds : List D}, ds.length = ms.length → (zr ms ds).length = ms.length
  | [], [], _ => rfl
  | _ :: ms, _ :: ds, h => by simp [zr, zr_len (ms := ms) (ds := ds) (by simpa using h)]
  | [], _ :: _, h => by simp at h
  | _ :: _, [], h => by simp at h
theorem finK_of : ∀ {ms ms' : List Md} {ds : List D} {ρ : Rho} {q : List D → Prop}, mOk ms ms' = true → finK ms' ds ρ q → ∃ ds', q ds' ∧ ds'.length = ms'.length ∧
    ∀ (k : Nat) (m : Md) (d : D), ms'[k]? = some m → ds'[k]? = some d → (m = .F ∧ ms[k]? = some .F ∧ ds[k]? = some d) ∨ (∃ m1, m = .P m1 ∧ ρ[k]? = some (some (.P m1, d)))
  | [], [], _, _, q, _, h => ⟨[], by simpa [finK] using h, rfl, by simp⟩
  | .F :: ms, .F :: ms', d :: ds, _ :: ρ, q, ho, h => by
    obtain ⟨ds', h1, h2, h3⟩ := finK_of (ms := ms) (ms' := ms') ho (by simpa [finK] using h)
    refine ⟨d :: ds', h1, by simp [h2], fun k m d' e1 e2 => ?_⟩
    cases k with
    | zero => simp at e1 e2; subst e1; subst e2; exact .inl ⟨rfl, rfl, rfl⟩
    | succ k => simpa using h3 k m d' (by simpa using e1) (by simpa using e2)
  | .P m0 :: ms, .P m1 :: ms', _ :: ds, some (.P m2, d) :: ρ, q, ho, h => by
    simp only [finK] at h
    obtain ⟨rfl, h⟩ := h
    obtain ⟨ds', h1, h2, h3⟩ := finK_of (ms := ms) (ms' := ms') ho h
    refine ⟨d :: ds', h1, by simp [h2], fun k m d' e1 e2 => ?_⟩
    cases k with
    | zero => simp at e1 e2; subst e1; subst e2; exact .inr ⟨_, rfl, rfl⟩
    | succ k => simpa using h3 k m d' (by simpa using e1) (by simpa using e2)
/-- the parameters' state behind a body -/
def parF (ms : List Md) (f : Own) : Own := fun k => match ms[k]? with
  | some (.P _) => f k
  | _ => []
theorem parF_sub {ms : List Md} {f : Own} {k : Nat} {a : Addr} (h : a ∈ parF ms f k) : a ∈ f k := by
  unfold parF at h
  split at h
  · exact h
  · cases h
theorem par_ok {ms ms' : List Md} {ds ds' : List D} {vs : List V} (hm : mOk ms ms' = true) (hl : vs.length = ms.length) (hS : S.ok K) (hσ : ∀ (k : Nat) (v : V), vs[k]? = some v → S.σ[k]? = some (some v)) (hρ : ∀ (k : Nat) (m : Md) (d : D), ms[k]? = some m → ds[k]? = some d → S.ρ[k]? = some (some (m, d)))
    (hp : S.pin = fun i => vs[i]?) (hT : T.ok K) (t : S.to T) (h2 : ds'.length = ms'.length)
    (h3 : ∀ (k : Nat) (m : Md) (d : D), ms'[k]? = some m → ds'[k]? = some d → (m = .F ∧ ms[k]? = some .F ∧ ds[k]? = some d) ∨ (∃ m1, m = .P m1 ∧ T.ρ[k]? = some (some (.P m1, d)))) :
    Sx K T.pin T.G T.H (vs.map some) (zr ms' ds') (parF ms' T.f) where
  ext := hT.ext
  len := by rw [zr_len h2, mOk_len hm, List.length_map, hl]
  slot := fun k m d e => by
    obtain ⟨e1, e2⟩ := zr_get.mp e
    have hk : k < vs.length := by
      have := (List.getElem?_eq_some_iff.mp e1).1
      rw [mOk_len hm] at this; omega
    have hv : vs[k]? = some vs[k] := List.getElem?_eq_getElem hk
    refine ⟨vs[k], by rw [List.getElem?_map, hv]; rfl, ?_⟩
    rcases h3 k m d e1 e2 with ⟨rfl, q1, q2⟩ | ⟨m1, rfl, q⟩
    · have : parF ms' T.f k = [] := by unfold parF; rw [e1]
      rw [this]
      obtain ⟨v, hv', r⟩ := hS.slot k _ _ (hρ k _ _ q1 q2)
      rw [hσ k _ hv] at hv'; cases hv'
      exact .F (r.F_inv.1.mono t.stp.gext)
    · have : parF ms' T.f k = T.f k := by unfold parF; rw [e1]
      rw [this]
      obtain ⟨v, hv', r⟩ := hT.slot k _ _ q
      obtain ⟨u, hu, hu'⟩ := hT.pins k _ _ q
      rw [t.pin, hp] at hu
      have hu2 : vs[k]? = some u := hu
      rw [hv] at hu2; cases hu2
      rw [hv'] at hu'; cases hu'
      exact r
  emp := fun k e => by
    unfold parF
    split
    · rename_i m1 e1
      have hk : k < ds'.length := by rw [h2]; exact (List.getElem?_eq_some_iff.mp e1).1
      exact absurd (zr_get.mpr ⟨e1, List.getElem?_eq_getElem hk⟩) (e _ _)
    · rfl
  nd := fun k => by
    unfold parF
    split
    · exact hT.nd k
    · exact List.nodup_nil
  dj := fun i j a h h' => hT.dj i j a (parF_sub h) (parF_sub h')
  out := fun i a h => hT.out i a (parF_sub h)
  pins := fun k m d e => by
    obtain ⟨e1, e2⟩ := zr_get.mp e
    rcases h3 k _ d e1 e2 with ⟨q, _⟩ | ⟨m1, q, q'⟩
    · cases q
    · cases q
      obtain ⟨u, hu, hu'⟩ := hT.pins k _ _ q'
      refine ⟨u, hu, ?_⟩
      rw [t.pin, hp] at hu
      have hu2 : vs[k]? = some u := hu
      rw [List.getElem?_map, hu2]; rfl
theorem Has.par {ms' : List Md} {kd : Kd} {v : V} {d : D} {σ' : L2.St} {ρ' : Rho} (hk : retK kd = true) (h : Has K S T kd v d) : Has K S { T with σ := σ', ρ := ρ', f := parF ms' T.f } kd v d := by
  cases kd with
  | fz => exact h
  | bor i p m => cases hk
  | new m =>
    obtain ⟨fp, r, n, k⟩ := h
    exact ⟨fp, r, n, fun a ha => ⟨(k a ha).1, fun ⟨i, z⟩ => (k a ha).2.1 ⟨i, parF_sub z⟩, (k a ha).2.2⟩⟩
theorem Sta.to.par {ms' : List Md} {σ' : L2.St} {ρ' : Rho} (t : S.to T) : S.to { T with σ := σ', ρ := ρ', f := parF ms' T.f } where
  stp := { gext := t.stp.gext, keep := t.stp.keep, gold := t.stp.gold, fnew := fun a ⟨i, h⟩ => t.stp.fnew a ⟨i, parF_sub h⟩, trk := t.stp.trk }
  pin := t.pin
theorem rep_noneR {n k : Nat} {x : Md × D} : (List.replicate n (none : Option (Md × D)))[k]? ≠ some (some x) := by
  intro h
  rw [List.getElem?_replicate] at h
  split at h <;> cases h
/-- the state at a body's start -/
theorem start_ok {N : List Str} {vs : List V} {ms : List Md} {ds : List D} (hl : vs.length = ms.length) (hd : ds.length = ms.length) (hN : ms.length ≤ N.length) (hS : S.ok K) (hσ : S.σ = vs.map some) (hρ : S.ρ = zr ms ds) :
    Sx K S.pin S.G S.H (L2.start N vs) (zr ms ds ++ List.replicate (N.length - ms.length) none) S.f := by
  have hzl : (zr ms ds).length = ms.length := zr_len hd
  have get : ∀ k m d, (zr ms ds ++ List.replicate (N.length - ms.length) none)[k]? = some (some (m, d)) → (zr ms ds)[k]? = some (some (m, d)) := fun k m d e => by
    by_cases c : k < (zr ms ds).length
    · rw [List.getElem?_append_left c] at e; exact e
    · rw [List.getElem?_append_right (by omega)] at e
      exact absurd e rep_noneR
  have put : ∀ k v, (vs.map some)[k]? = some (some v) → (L2.start N vs)[k]? = some (some v) := fun k v e => by
    unfold L2.start
    rw [List.getElem?_append_left (List.getElem?_eq_some_iff.mp e).1]
    exact e
  exact {
    ext := hS.ext
    len := by unfold L2.start; simp [hzl, hl]
    slot := fun k m d e => by
      obtain ⟨v, h1, r⟩ := hS.slot k m d (by rw [hρ]; exact get k m d e)
      exact ⟨v, put k v (by rw [← hσ]; exact h1), r⟩
    emp := fun k e => hS.emp k fun m d q => e m d (by
      rw [hρ] at q
      rw [List.getElem?_append_left (List.getElem?_eq_some_iff.mp q).1]; exact q)
    nd := hS.nd
    dj := hS.dj
    out := hS.out
    pins := fun k m d e => by
      obtain ⟨v, h1, h2⟩ := hS.pins k m d (by rw [hρ]; exact get k _ d e)
      exact ⟨v, h1, put k v (by rw [← hσ]; exact h2)⟩ }
variable {P : Program} {w : World} {mg : Str → Option Value} {base : Heap}
theorem fn_ok {x qual : Str} {st : Stmt} {fa : Addr} {fd : FuncData} {N ps : List Str} {k : Nat} {ms ms' : List Md} {Wf : DF} {w' : DS} (F : Fun K x qual st fa fd) (sc : FnScope N ps (defScope st)) (hm : ms.length = ps.length) (ho : mOk ms ms' = true) (hN : ms.length ≤ N.length)
    (body : ∀ (cdv : Value) (A : Around) (outer : List Env) (s : Shared) (H : Hp) (E : XK), Room k (A.deeper (envOfC qual (defScope st) s.heap.objs.size fa cdv)) →
      PSs (cxOf (L2.CX P w) P w K mg base N qual (defScope st) fa cdv A outer s H E) (defBody st) (ts K (fun cls d _ H => E cls d H) w'))
    (hw : ∀ ds P, ds.length = ms.length → Wf ds P → w' (endsOf ms' ds P) (zr ms ds ++ List.replicate (N.length - ms.length) none)) :
    FnOk P w K mg base (L2.CX P w) (k + 1) fa fd ps (spV K ms ms' Wf) := by
  refine F.okX sc (fun vs H Q E h => ?_) (fun cdv A outer s H vs Q E hr h => ⟨ts K (fun cls d _ H => E cls d H) w', body cdv A outer s H E hr, ?_⟩)
  · obtain ⟨S, ds, Pf, _, _, _, h, _⟩ := h
    rw [h, hm]
  · obtain ⟨S, ds, Pf, rfl, hσ, hp, hl, hd, hρ, ok, wf, k1, k2⟩ := h
    have sok := start_ok (N := N) hl hd hN ok hσ hρ
    have hσ' : ∀ (k : Nat) (v : V), vs[k]? = some v → (L2.start N vs)[k]? = some (some v) := fun k v e => by
      have e' : (vs.map some)[k]? = some (some v) := by rw [List.getElem?_map, e]; rfl
      unfold L2.start
      rw [List.getElem?_append_left (List.getElem?_eq_some_iff.mp e').1]; exact e'
    have hρ' : ∀ (k : Nat) (m : Md) (d : D), ms[k]? = some m → ds[k]? = some d → (zr ms ds ++ List.replicate (N.length - ms.length) none)[k]? = some (some (m, d)) := fun k m d e1 e2 => by
      have e := zr_get.mpr ⟨e1, e2⟩
      rw [List.getElem?_append_left (List.getElem?_eq_some_iff.mp e).1]; exact e
    have fin : ∀ {q : List D → Prop} (T : Sta), finK ms' ds T.ρ q → T.ok K → (Sta.to { S with σ := L2.start N vs, ρ := zr ms ds ++ List.replicate (N.length - ms.length) none } T) → ∃ ds', q ds' ∧ ds'.length = ms'.length ∧ Sta.ok K { T with σ := vs.map some, ρ := zr ms' ds', f := parF ms' T.f } := fun {q} T hq okT t => by
      obtain ⟨ds', h1, h2, h3⟩ := finK_of ho hq
      exact ⟨ds', h1, h2, par_ok (S := { S with σ := L2.start N vs, ρ := zr ms ds ++ List.replicate (N.length - ms.length) none }) ho hl sok hσ' hρ' hp okT t h2 h3⟩
    refine ⟨{ S with σ := L2.start N vs, ρ := zr ms ds ++ List.replicate (N.length - ms.length) none }, endsOf ms' ds Pf, rfl, rfl, sok, hw ds Pf hd wf, ?_⟩
    refine ⟨fun T e okT t => ?_, fun T e _ _ => e.elim, fun T e _ _ => e.elim, fun x T e okT t v hv => ?_, fun C fl T e okT t dd hd' => ?_⟩
    · obtain ⟨ds', h1, h2, h3⟩ := fin T e okT t
      exact k1 _ ds' _ h1 h2 rfl rfl h3 (Sta.to.par (S := S) ⟨t.stp, t.pin⟩) rfl _ (Has.par (S := S) (T := T) (kd := .fz) rfl .non)
    · obtain ⟨ds', h1, h2, h3⟩ := fin T e.2 okT t
      exact k1 _ ds' _ h1 h2 rfl rfl h3 (Sta.to.par (S := S) ⟨t.stp, t.pin⟩) e.1 _ (Has.par (S := S) e.1 (by
        obtain ⟨kd, d⟩ := x
        cases kd with
        | fz => exact hv
        | bor i p m => cases e.1
        | new m => exact hv))
    · obtain ⟨ds', h1, h2, h3⟩ := fin T e okT t
      exact k2 C fl ds' _ h1 h2 rfl rfl h3 (Sta.to.par (S := S) ⟨t.stp, t.pin⟩) dd hd'
end
end VL

namespace VL
open PySem PySem.Spec PyProof.Rows L2
/-! ### calls of one's own defs -/
def argsOk : List Md → List (Kd × D) → Prop
  | [], [] => True
  | .F :: ms, (.fz, _) :: xs => argsOk ms xs
  | .P m :: ms, (.bor _ _ m', _) :: xs => m' = m ∧ argsOk ms xs
  | _, _ => False
/-- the slots that are lent -/
def borS : List (Kd × D) → List Nat
  | [] => []
  | (.bor i _ _, _) :: xs => i :: borS xs
  | _ :: xs => borS xs
def nodupB : List Nat → Bool
  | [] => true
  | i :: l => !l.contains i && nodupB l
def setAt (ρ : Rho) (i : Nat) (p : List Nat) (d' : D) : Rho := match ρ[i]? with
  | some (some (m, d)) => ρ.set i (some (m, dSet d p d'))
  | _ => ρ
def putBack : List (Kd × D) → List D → Rho → Rho
  | (.bor i p _, _) :: xs, d' :: ds', ρ => putBack xs ds' (setAt ρ i p d')
  | _ :: xs, _ :: ds', ρ => putBack xs ds' ρ
  | _, _, ρ => ρ
section
variable {K : PySem.W.Frag} {W : WX} {G G' H H' H0 : Hp} {σ : L2.St} {ρ : Rho} {f f' : Own} {pin : Nat → Option V} {X : Cx} {S S0 S1 T T1 T2 U : Sta} {E : En} {Z : Ends}
theorem setAt_ne {i j : Nat} {p : List Nat} {d' : D} (h : j ≠ i) : (setAt ρ i p d')[j]? = ρ[j]? := by
  unfold setAt
  split
  · rw [List.getElem?_set_ne (Ne.symm h)]
  · rfl
theorem setAt_eq {i : Nat} {p : List Nat} {d' d0 : D} {m0 : Md} (h : ρ[i]? = some (some (m0, d0))) : (setAt ρ i p d')[i]? = some (some (m0, dSet d0 p d')) := by
  unfold setAt
  rw [h]
  show (ρ.set i (some (m0, dSet d0 p d')))[i]? = _
  rw [List.getElem?_set_self (List.getElem?_eq_some_iff.mp h).1]
theorem setAt_len {i : Nat} {p : List Nat} {d' : D} : (setAt ρ i p d').length = ρ.length := by
  unfold setAt
  split
  · simp
  · rfl
theorem putBack_len : ∀ {xs : List (Kd × D)} {ds' : List D} {ρ : Rho}, (putBack xs ds' ρ).length = ρ.length
  | [], _, _ => by cases ‹List D› <;> rfl
  | (.fz, _) :: _, [], _ => rfl
  | (.new _, _) :: _, [], _ => rfl
  | (.bor _ _ _, _) :: _, [], _ => rfl
  | (.fz, _) :: xs, d :: ds', ρ => putBack_len (xs := xs)
  | (.new _, _) :: xs, d :: ds', ρ => putBack_len (xs := xs)
  | (.bor i p m, _) :: xs, d :: ds', ρ => by
    show (putBack xs ds' (setAt ρ i p d)).length = _
    rw [putBack_len, setAt_len]
theorem putBack_ne : ∀ {xs : List (Kd × D)} {ds' : List D} {ρ : Rho} {j : Nat}, j ∉ borS xs → (putBack xs ds' ρ)[j]? = ρ[j]?
  | [], _, _, _, _ => by cases ‹List D› <;> rfl
  | (.fz, _) :: _, [], _, _, _ => rfl
  | (.new _, _) :: _, [], _, _, _ => rfl
  | (.bor _ _ _, _) :: _, [], _, _, _ => rfl
  | (.fz, _) :: xs, d :: ds', ρ, j, h => putBack_ne (xs := xs) h
  | (.new _, _) :: xs, d :: ds', ρ, j, h => putBack_ne (xs := xs) h
  | (.bor i p m, _) :: xs, d :: ds', ρ, j, h => by
    show (putBack xs ds' (setAt ρ i p d))[j]? = _
    rw [putBack_ne (fun z => h (List.mem_cons_of_mem _ z)), setAt_ne (fun z : j = i => h (by rw [z]; exact List.mem_cons_self))]
theorem nodupB_cons {i : Nat} {l : List Nat} (h : nodupB (i :: l) = true) : i ∉ l ∧ nodupB l = true := by
  simpa [nodupB] using h
theorem borS_mem : ∀ {xs : List (Kd × D)} {k : Nat} {i : Nat} {p : List Nat} {m : Md} {d : D}, xs[k]? = some (.bor i p m, d) → i ∈ borS xs
  | [], k, _, _, _, _, h => by simp at h
  | (.bor _ _ _, _) :: xs, 0, _, _, _, _, h => by simp at h; obtain ⟨⟨rfl, _⟩, _⟩ := h; exact List.mem_cons_self
  | (.fz, _) :: xs, 0, _, _, _, _, h => by simp at h
  | (.new _, _) :: xs, 0, _, _, _, _, h => by simp at h
  | (.bor _ _ _, _) :: xs, k + 1, _, _, _, _, h => List.mem_cons_of_mem _ (borS_mem (xs := xs) (k := k) (by simpa using h))
  | (.fz, _) :: xs, k + 1, _, _, _, _, h => borS_mem (xs := xs) (k := k) (by simpa using h)
  | (.new _, _) :: xs, k + 1, _, _, _, _, h => borS_mem (xs := xs) (k := k) (by simpa using h)
theorem borS_get : ∀ {xs : List (Kd × D)} {i : Nat}, i ∈ borS xs → ∃ (k : Nat) (p : List Nat) (m : Md) (d : D), xs[k]? = some (.bor i p m, d)
  | [], _, h => by cases h
  | (.bor i p m, d) :: xs, j, h => by
    rcases List.mem_cons.mp h with rfl | h
    · exact ⟨0, p, m, d, rfl⟩
    · obtain ⟨k, q⟩ := borS_get h
      exact ⟨k + 1, by simpa using q⟩
  | (.fz, _) :: xs, j, h => by
    obtain ⟨k, q⟩ := borS_get (xs := xs) h
    exact ⟨k + 1, by simpa using q⟩
  | (.new _, _) :: xs, j, h => by
    obtain ⟨k, q⟩ := borS_get (xs := xs) h
    exact ⟨k + 1, by simpa using q⟩
theorem borS_inj : ∀ {xs : List (Kd × D)} {k k' i : Nat} {p p' : List Nat} {m m' : Md} {d d' : D}, nodupB (borS xs) = true → xs[k]? = some (.bor i p m, d) → xs[k']? = some (.bor i p' m', d') → k = k'
  | [], _, _, _, _, _, _, _, _, _, _, h, _ => by simp at h
  | (.bor j q n, e) :: xs, 0, 0, _, _, _, _, _, _, _, _, _, _ => rfl
  | (.bor j q n, e) :: xs, 0, k' + 1, _, _, _, _, _, _, _, hn, h, h' => by
    simp at h; obtain ⟨⟨rfl, _⟩, _⟩ := h
    exact absurd (borS_mem (xs := xs) (k := k') (by simpa using h')) (nodupB_cons hn).1
  | (.bor j q n, e) :: xs, k + 1, 0, _, _, _, _, _, _, _, hn, h, h' => by
    simp at h'; obtain ⟨⟨rfl, _⟩, _⟩ := h'
    exact absurd (borS_mem (xs := xs) (k := k) (by simpa using h)) (nodupB_cons hn).1
  | (.bor j q n, e) :: xs, k + 1, k' + 1, _, _, _, _, _, _, _, hn, h, h' => congrArg (· + 1) (borS_inj (nodupB_cons hn).2 (by simpa using h) (by simpa using h'))
  | (.fz, e) :: xs, 0, _, _, _, _, _, _, _, _, _, h, _ => by simp at h
  | (.fz, e) :: xs, _ + 1, 0, _, _, _, _, _, _, _, _, _, h => by simp at h
  | (.fz, e) :: xs, k + 1, k' + 1, _, _, _, _, _, _, _, hn, h, h' => congrArg (· + 1) (borS_inj (xs := xs) hn (by simpa using h) (by simpa using h'))
  | (.new _, e) :: xs, 0, _, _, _, _, _, _, _, _, _, h, _ => by simp at h
  | (.new _, e) :: xs, _ + 1, 0, _, _, _, _, _, _, _, _, _, h => by simp at h
  | (.new _, e) :: xs, k + 1, k' + 1, _, _, _, _, _, _, _, hn, h, h' => congrArg (· + 1) (borS_inj (xs := xs) hn (by simpa using h) (by simpa using h'))
theorem putBack_eq : ∀ {xs : List (Kd × D)} {ds' : List D} {ρ : Rho} {k i : Nat} {p : List Nat} {m m0 : Md} {d d' d0 : D}, nodupB (borS xs) = true → xs[k]? = some (.bor i p m, d) → ds'[k]? = some d' → ρ[i]? = some (some (m0, d0)) → (putBack xs ds' ρ)[i]? = some (some (m0, dSet d0 p d'))
  | [], _, _, _, _, _, _, _, _, _, _, _, h, _, _ => by simp at h
  | _ :: _, [], _, _, _, _, _, _, _, _, _, _, _, h, _ => by simp at h
  | (.bor j q n, e) :: xs, d1 :: ds', ρ, 0, _, _, _, _, _, _, _, hn, h, h', h0 => by
    simp at h; obtain ⟨⟨rfl, rfl, rfl⟩, rfl⟩ := h
    simp at h'; subst h'
    show (putBack xs ds' (setAt ρ j q d1))[j]? = _
    rw [putBack_ne (nodupB_cons hn).1, setAt_eq h0]
  | (.bor j q n, e) :: xs, d1 :: ds', ρ, k + 1, i, _, _, _, _, _, _, hn, h, h', h0 => by
    have hi : i ∈ borS xs := borS_mem (xs := xs) (k := k) (by simpa using h)
    show (putBack xs ds' (setAt ρ j q d1))[i]? = _
    exact putBack_eq (nodupB_cons hn).2 (k := k) (by simpa using h) (by simpa using h') (by rw [setAt_ne (fun z : i = j => (nodupB_cons hn).1 (by rw [← z]; exact hi))]; exact h0)
  | (.fz, e) :: xs, d1 :: ds', ρ, 0, _, _, _, _, _, _, _, _, h, _, _ => by simp at h
  | (.fz, e) :: xs, d1 :: ds', ρ, k + 1, i, _, _, _, _, _, _, hn, h, h', h0 => putBack_eq (xs := xs) hn (k := k) (by simpa using h) (by simpa using h') h0
  | (.new _, e) :: xs, d1 :: ds', ρ, 0, _, _, _, _, _, _, _, _, h, _, _ => by simp at h
  | (.new _, e) :: xs, d1 :: ds', ρ, k + 1, i, _, _, _, _, _, _, hn, h, h', h0 => putBack_eq (xs := xs) hn (k := k) (by simpa using h) (by simpa using h') h0
theorem R.unstrip : ∀ {m : Md} {v : V} {d : D} {fp : List Addr}, R K G H m.st v d fp → R K G H m v d fp
  | .F, _, _, _, h => h
  | .L _, _, _, _, h => h
  | .K, _, _, _, h => h
  | .N, _, _, _, h => h
  | .M _, _, _, _, h => h
  | .O _, _, _, _, h => h
  | .T _, _, _, _, h => h
  | .A _, _, _, _, h => h
  | .P m, _, _, _, h => .P (R.unstrip (m := m) h)
theorem HasA.get {vs : List V} {ds : List (Kd × D)} (h : HasA K S0 T vs ds) : ∀ {k : Nat} {x : Kd × D}, ds[k]? = some x → ∃ v, vs[k]? = some v ∧ Has K S0 T x.1 v x.2 := by
  induction h with
  | nil => intro k x e; simp at e
  | cons h t ih =>
    intro k x e
    cases k with
    | zero => simp at e; subst e; exact ⟨_, rfl, h⟩
    | succ k => simpa using ih (by simpa using e)
theorem argsOk_get : ∀ {ms : List Md} {xs : List (Kd × D)}, argsOk ms xs → xs.length = ms.length ∧ ∀ (k : Nat) (m : Md) (x : Kd × D), ms[k]? = some m → xs[k]? = some x → (m = .F ∧ x.1 = .fz) ∨ ∃ i p m1, m = .P m1 ∧ x.1 = .bor i p m1
  | [], [], _ => ⟨rfl, by simp⟩
  | .F :: ms, (.fz, d) :: xs, h => by
    obtain ⟨h1, h2⟩ := argsOk_get (ms := ms) (xs := xs) h
    refine ⟨by simp [h1], fun k m x e e' => ?_⟩
    cases k with
    | zero => simp at e e'; subst e; subst e'; exact .inl ⟨rfl, rfl⟩
    | succ k => exact h2 k m x (by simpa using e) (by simpa using e')
  | .P m0 :: ms, (.bor i p m1, d) :: xs, h => by
    obtain ⟨rfl, h⟩ := h
    obtain ⟨h1, h2⟩ := argsOk_get (ms := ms) (xs := xs) h
    refine ⟨by simp [h1], fun k m x e e' => ?_⟩
    cases k with
    | zero => simp at e e'; subst e; subst e'; exact .inr ⟨i, p, _, rfl, rfl⟩
    | succ k => exact h2 k m x (by simpa using e) (by simpa using e')
/-- what is lent -/
structure Lent (K : PySem.W.Frag) (T : Sta) (i : Nat) (p : List Nat) (m : Md) (v : V) (d : D) (fq : List Addr) : Prop where
  r : R K T.G T.H m v d fq
  nd : fq.Nodup
  sub : ∀ a ∈ fq, a ∈ T.f i
  back : ∃ m0 d0 v0, T.ρ[i]? = some (some (m0, d0)) ∧ T.σ[i]? = some (some v0) ∧ ∀ (G' H' : Hp) (d' : D) (fq' : List Addr), Ex T.G G' → (∀ a ∈ T.f i, a ∉ fq → H' a = T.H a) → R K G' H' m v d' fq' → fq'.Nodup → (∀ a ∈ fq', a ∈ fq ∨ a ∉ T.f i) →
      ∃ fr, R K G' H' m0 v0 (dSet d0 p d') fr ∧ fr.Nodup ∧ ∀ a ∈ fr, (a ∈ T.f i ∧ a ∉ fq) ∨ a ∈ fq'
theorem Has.lent (ok : T.ok K) {i : Nat} {p : List Nat} {m : Md} {v : V} {d : D} (h : Has K S0 T (.bor i p m) v d) : ∃ fq, Lent K T i p m v d fq := by
  obtain ⟨m0, d0, v0, h1, h2, h3, h4, h5⟩ := h
  obtain ⟨v1, g1, r⟩ := ok.slot i m0 d0 h1
  rw [h2] at g1; cases g1
  obtain ⟨fq, r1, n1, s1, k1⟩ := R.lens ok.ext r.strip (ok.nd i) h3 h4 h5
  refine ⟨fq, r1, n1, s1, m0, d0, v0, h1, h2, fun G' H' d' fq' e k r' nq hq => ?_⟩
  obtain ⟨fr, r2, n2, s2⟩ := k1 G' H' d' fq' e k r' nq hq
  exact ⟨fr, r2.unstrip, n2, s2⟩
/-- the callee's state, and the way back -/
theorem call_state {ms : List Md} {xs : List (Kd × D)} {vs : List V} (ok : T.ok K) (h : HasA K S0 T vs xs) (ha : argsOk ms xs) (hn : nodupB (borS xs) = true) :
    ∃ fA : Own, Sx K (fun i => vs[i]?) T.G T.H (vs.map some) (zr ms (xs.map (·.2))) fA ∧ (∀ a, Ow fA a → Ow T.f a) ∧
      ∀ (ds' : List D) (U : Sta), ds'.length = ms.length → U.σ = vs.map some → U.ρ = zr ms ds' → U.ok K → Sta.to ⟨fun i => vs[i]?, T.G, T.H, vs.map some, zr ms (xs.map (·.2)), fA⟩ U →
        ∃ f2 : Own, Sx K T.pin U.G U.H T.σ (putBack xs ds' T.ρ) f2 ∧ T.to ⟨T.pin, U.G, U.H, T.σ, putBack xs ds' T.ρ, f2⟩ ∧ Tch (borS xs) T ⟨T.pin, U.G, U.H, T.σ, putBack xs ds' T.ρ, f2⟩ ∧
          ∀ a, Ow f2 a → ¬ Ow U.f a → (Ow T.f a ∧ ¬ Ow fA a) := by
  obtain ⟨hl, hx⟩ := argsOk_get ha
  have hvl : vs.length = xs.length := h.len
  -- what is lent, by places
  have ex : ∀ k : Nat, ∃ fq : List Addr, (∀ i p m d, xs[k]? = some (.bor i p m, d) → ∃ v, vs[k]? = some v ∧ Lent K T i p m v d fq) ∧ ((∀ i p m d, xs[k]? ≠ some (.bor i p m, d)) → fq = []) := fun k => by
    by_cases c : ∃ i p m d, xs[k]? = some (.bor i p m, d)
    · obtain ⟨i, p, m, d, e⟩ := c
      obtain ⟨v, hv, hh⟩ := h.get e
      obtain ⟨fq, l⟩ := hh.lent ok
      refine ⟨fq, fun i' p' m' d' e' => ?_, fun z => absurd e (z i p m d)⟩
      rw [e] at e'; cases e'
      exact ⟨v, hv, l⟩
    · exact ⟨[], fun i p m d e => absurd ⟨i, p, m, d, e⟩ c, fun _ => rfl⟩
  obtain ⟨fA, hA⟩ := Classical.axiomOfChoice ex
  have own : ∀ k a, a ∈ fA k → ∃ i p m d, xs[k]? = some (.bor i p m, d) ∧ ∃ v, vs[k]? = some v ∧ Lent K T i p m v d (fA k) := fun k a ha => by
    by_cases c : ∃ i p m d, xs[k]? = some (.bor i p m, d)
    · obtain ⟨i, p, m, d, e⟩ := c
      exact ⟨i, p, m, d, e, (hA k).1 i p m d e⟩
    · rw [(hA k).2 fun i p m d e => c ⟨i, p, m, d, e⟩] at ha; cases ha
  have sub : ∀ a, Ow fA a → Ow T.f a := fun a ⟨k, hk⟩ => by
    obtain ⟨i, p, m, d, _, v, _, l⟩ := own k a hk
    exact ⟨i, l.sub a hk⟩
  have lm : (xs.map (·.2)).length = ms.length := by rw [List.length_map, hl]
  have get : ∀ (k : Nat) (m : Md) (d : D), (zr ms (xs.map (·.2)))[k]? = some (some (m, d)) → ∃ x v, ms[k]? = some m ∧ xs[k]? = some x ∧ x.2 = d ∧ vs[k]? = some v ∧ Has K S0 T x.1 v x.2 := fun k m d e => by
    obtain ⟨e1, e2⟩ := zr_get.mp e
    rw [List.getElem?_map] at e2
    cases q : xs[k]? with
    | none => rw [q] at e2; cases e2
    | some x =>
      rw [q] at e2
      obtain ⟨v, hv, hh⟩ := h.get q
      exact ⟨x, v, e1, rfl, by simpa using e2, hv, hh⟩
  have sA : Sx K (fun i => vs[i]?) T.G T.H (vs.map some) (zr ms (xs.map (·.2))) fA := {
    ext := ok.ext
    len := by rw [zr_len lm, List.length_map, hvl, hl]
    slot := fun k m d e => by
      obtain ⟨x, v, e1, e2, e3, hv, hh⟩ := get k m d e
      refine ⟨v, by rw [List.getElem?_map, hv]; rfl, ?_⟩
      obtain ⟨kd, dd⟩ := x
      cases e3
      rcases hx k m _ e1 e2 with ⟨rfl, q⟩ | ⟨i, p, m1, rfl, q⟩
      · cases q
        rw [(hA k).2 fun i p m d z => by rw [e2] at z; cases z]
        exact .F hh
      · cases q
        obtain ⟨v', hv', l⟩ := (hA k).1 _ _ _ _ e2
        rw [hv] at hv'; cases hv'
        exact .P l.r
    emp := fun k e => (hA k).2 fun i p m d z => by
      have hk : k < ms.length := by rw [← hl]; exact (List.getElem?_eq_some_iff.mp z).1
      exact e _ _ (zr_get.mpr ⟨List.getElem?_eq_getElem hk, by rw [List.getElem?_map, z]; rfl⟩)
    nd := fun k => by
      by_cases c : ∃ i p m d, xs[k]? = some (.bor i p m, d)
      · obtain ⟨i, p, m, d, e⟩ := c
        obtain ⟨v, _, l⟩ := (hA k).1 i p m d e
        exact l.nd
      · rw [(hA k).2 fun i p m d e => c ⟨i, p, m, d, e⟩]; exact List.nodup_nil
    dj := fun k k' a ha ha' => by
      obtain ⟨i, p, m, d, e, v, _, l⟩ := own k a ha
      obtain ⟨i', p', m', d', e', v', _, l'⟩ := own k' a ha'
      have q := ok.dj i i' a (l.sub a ha) (l'.sub a ha')
      subst q
      exact borS_inj hn e e'
    out := fun k a ha => ok.outO (sub a ⟨k, ha⟩)
    pins := fun k m d e => by
      obtain ⟨x, v, e1, e2, e3, hv, hh⟩ := get k _ d e
      exact ⟨v, hv, by rw [List.getElem?_map, hv]; rfl⟩ }
  refine ⟨fA, sA, sub, fun ds' U hd hσ hρ okU t => ?_⟩
  have tg : Ex T.G U.G := t.stp.gext
  have keepO : ∀ a o, T.H a = some o → ¬ Ow fA a → U.H a = some o := t.stp.keep
  have newU : ∀ a, Ow U.f a → Ow fA a ∨ T.H a = none := t.stp.fnew
  -- a lent thing as it came back
  have came : ∀ k i p m d, xs[k]? = some (.bor i p m, d) → ∃ fr d' m0 d0 v0, ds'[k]? = some d' ∧ T.ρ[i]? = some (some (m0, d0)) ∧ T.σ[i]? = some (some v0) ∧ R K U.G U.H m0 v0 (dSet d0 p d') fr ∧ fr.Nodup ∧ ∀ a ∈ fr, (a ∈ T.f i ∧ a ∉ fA k) ∨ a ∈ U.f k := fun k i p m d e => by
    obtain ⟨v, hv, l⟩ := (hA k).1 i p m d e
    have hk : k < ds'.length := by rw [hd, ← hl]; exact (List.getElem?_eq_some_iff.mp e).1
    have hk' : k < ms.length := by rw [← hd]; exact hk
    have hm : ms[k]? = some ms[k] := List.getElem?_eq_getElem hk'
    have hdk : ds'[k]? = some ds'[k] := List.getElem?_eq_getElem hk
    obtain ⟨m0, d0, v0, b1, b2, b3⟩ := l.back
    rcases hx k _ _ hm e with ⟨_, q⟩ | ⟨i', p', m1, q0, q⟩
    · cases q
    · cases q
      obtain ⟨v', hv', r'⟩ := okU.slot k (.P m) _ (by rw [hρ]; exact zr_get.mpr ⟨by rw [hm, q0], hdk⟩)
      rw [hσ, List.getElem?_map, hv] at hv'
      cases hv'
      have r'' : R K U.G U.H m v ds'[k] (U.f k) := by
        cases r' with
        | P h => exact h
      have z1 : ∀ a ∈ T.f i, a ∉ fA k → U.H a = T.H a := by
        intro a ha hn'
        cases z : T.H a with
        | none => exact absurd z (ok.own ⟨i, ha⟩)
        | some o =>
          refine keepO a o z fun ⟨k', hk'⟩ => ?_
          obtain ⟨i', p', m', d', e', _, _, l'⟩ := own k' a hk'
          have q := ok.dj i i' a ha (l'.sub a hk')
          subst q
          have := borS_inj hn e e'
          subst this
          exact hn' hk'
      have z2 : ∀ a ∈ U.f k, a ∈ fA k ∨ a ∉ T.f i := by
        intro a ha
        rcases newU a ⟨k, ha⟩ with ⟨k', hk'⟩ | q
        · by_cases c : a ∈ T.f i
          · obtain ⟨i', p', m', d', e', _, _, l'⟩ := own k' a hk'
            have q := ok.dj i i' a c (l'.sub a hk')
            subst q
            have := borS_inj hn e e'
            subst this
            exact .inl hk'
          · exact .inr c
        · exact .inr fun c => ok.own ⟨i, c⟩ q
      obtain ⟨fr, h1, h2, h3⟩ := b3 U.G U.H ds'[k] (U.f k) tg z1 r'' (okU.nd k) z2
      exact ⟨fr, ds'[k], m0, d0, v0, hdk, b1, b2, h1, h2, h3⟩
  have ex2 : ∀ j : Nat, ∃ fr : List Addr, (∀ k p m d, xs[k]? = some (.bor j p m, d) → ∃ d' m0 d0 v0, ds'[k]? = some d' ∧ T.ρ[j]? = some (some (m0, d0)) ∧ T.σ[j]? = some (some v0) ∧ R K U.G U.H m0 v0 (dSet d0 p d') fr ∧ fr.Nodup ∧ ∀ a ∈ fr, (a ∈ T.f j ∧ a ∉ fA k) ∨ a ∈ U.f k) ∧ (j ∉ borS xs → fr = T.f j) := fun j => by
    by_cases c : j ∈ borS xs
    · obtain ⟨k, p, m, d, e⟩ := borS_get c
      obtain ⟨fr, q⟩ := came k j p m d e
      refine ⟨fr, fun k' p' m' d' e' => ?_, fun z => absurd c z⟩
      have := borS_inj hn e e'
      subst this
      rw [e] at e'; cases e'
      exact q
    · exact ⟨T.f j, fun k p m d e => absurd (borS_mem e) c, fun _ => rfl⟩
  obtain ⟨f2, h2⟩ := Classical.axiomOfChoice ex2
  have cls : ∀ j a, a ∈ f2 j → (a ∈ T.f j ∧ ¬ Ow fA a) ∨ (∃ k p m d, xs[k]? = some (.bor j p m, d) ∧ a ∈ U.f k) := fun j a ha => by
    by_cases c : j ∈ borS xs
    · obtain ⟨k, p, m, d, e⟩ := borS_get c
      obtain ⟨d', m0, d0, v0, _, _, _, _, _, q⟩ := (h2 j).1 k p m d e
      rcases q a ha with q | q
      · refine .inl ⟨q.1, fun ⟨k', hk'⟩ => ?_⟩
        obtain ⟨i', p', m', d'', e', _, _, l'⟩ := own k' a hk'
        have z := ok.dj j i' a q.1 (l'.sub a hk')
        subst z
        have := borS_inj hn e e'
        subst this
        exact q.2 hk'
      · exact .inr ⟨k, p, m, d, e, q⟩
    · rw [(h2 j).2 c] at ha
      refine .inl ⟨ha, fun ⟨k', hk'⟩ => ?_⟩
      obtain ⟨i', p', m', d'', e', _, _, l'⟩ := own k' a hk'
      have z := ok.dj j i' a ha (l'.sub a hk')
      subst z
      exact c (borS_mem e')
  have keepS : ∀ j, j ∉ borS xs → ∀ a ∈ T.f j, ∀ o, T.H a = some o → U.H a = some o := fun j hj a ha o ho => keepO a o ho fun ⟨k', hk'⟩ => by
    obtain ⟨i', p', m', d'', e', _, _, l'⟩ := own k' a hk'
    have z := ok.dj j i' a ha (l'.sub a hk')
    subst z
    exact hj (borS_mem e')
  refine ⟨f2, ?_, ?_, ?_, ?_⟩
  · exact {
      ext := okU.ext
      len := by rw [putBack_len]; exact ok.len
      slot := fun j m d e => by
        by_cases c : j ∈ borS xs
        · obtain ⟨k, p, m1, d1, e1⟩ := borS_get c
          obtain ⟨d', m0, d0, v0, q1, q2, q3, q4, _⟩ := (h2 j).1 k p m1 d1 e1
          rw [putBack_eq hn e1 q1 q2] at e
          cases e
          exact ⟨v0, q3, q4⟩
        · rw [putBack_ne c] at e
          obtain ⟨v, g1, g2⟩ := ok.slot j m d e
          refine ⟨v, g1, ?_⟩
          rw [(h2 j).2 c]
          exact g2.keep tg (keepS j c)
      emp := fun j e => by
        by_cases c : j ∈ borS xs
        · obtain ⟨k, p, m1, d1, e1⟩ := borS_get c
          obtain ⟨d', m0, d0, v0, q1, q2, q3, q4, _⟩ := (h2 j).1 k p m1 d1 e1
          exact absurd (putBack_eq hn e1 q1 q2) (e _ _)
        · rw [(h2 j).2 c]
          exact ok.emp j fun m d z => e m d (by rw [putBack_ne c]; exact z)
      nd := fun j => by
        by_cases c : j ∈ borS xs
        · obtain ⟨k, p, m1, d1, e1⟩ := borS_get c
          obtain ⟨d', m0, d0, v0, q1, q2, q3, q4, q5, _⟩ := (h2 j).1 k p m1 d1 e1
          exact q5
        · rw [(h2 j).2 c]; exact ok.nd j
      dj := fun j j' a ha ha' => by
        rcases cls j a ha with q | ⟨k, p, m, d, e, q⟩
        · rcases cls j' a ha' with q' | ⟨k', p', m', d', e', q'⟩
          · exact ok.dj j j' a q.1 q'.1
          · rcases newU a ⟨k', q'⟩ with z | z
            · exact absurd z q.2
            · exact absurd z (ok.own ⟨j, q.1⟩)
        · rcases cls j' a ha' with q' | ⟨k', p', m', d', e', q'⟩
          · rcases newU a ⟨k, q⟩ with z | z
            · exact absurd z q'.2
            · exact absurd z (ok.own ⟨j', q'.1⟩)
          · have := okU.dj k k' a q q'
            subst this
            rw [e] at e'; cases e'; rfl
      out := fun j a ha => by
        rcases cls j a ha with q | ⟨k, p, m, d, e, q⟩
        · have z : T.H a ≠ none := ok.own ⟨j, q.1⟩
          rw [t.stp.gold a z q.2]
          exact ok.out j a q.1
        · exact okU.out k a q
      pins := fun j m d e => by
        by_cases c : j ∈ borS xs
        · obtain ⟨k, p, m1, d1, e1⟩ := borS_get c
          obtain ⟨d', m0, d0, v0, q1, q2, q3, q4, _⟩ := (h2 j).1 k p m1 d1 e1
          rw [putBack_eq hn e1 q1 q2] at e
          cases e
          exact ok.pins j _ _ q2
        · rw [putBack_ne c] at e
          exact ok.pins j m d e }
  · refine ⟨⟨tg, fun a o h1 h3 => keepO a o h1 fun z => h3 (sub a z), fun a h1 h3 => t.stp.gold a h1 fun z => h3 (sub a z), fun a ⟨j, hj⟩ => ?_, t.stp.trk⟩, rfl⟩
    rcases cls j a hj with q | ⟨k, p, m, d, e, q⟩
    · exact .inl ⟨j, q.1⟩
    · exact (newU a ⟨k, q⟩).imp_left (sub a)
  · intro j hj
    exact ⟨putBack_ne hj, (h2 j).2 hj, keepS j hj⟩
  · rintro a ⟨j, hj⟩ hn'
    rcases cls j a hj with q | ⟨k, p, m, d, e, q⟩
    · exact ⟨⟨j, q.1⟩, q.2⟩
    · exact absurd ⟨k, q⟩ hn'
end
end VL

namespace VL
open PySem PySem.Spec PyProof.Rows L2
section
variable {K : PySem.W.Frag} {W : WX} {G G' H H' H0 : Hp} {σ : L2.St} {ρ : Rho} {f f' : Own} {pin : Nat → Option V} {X : Cx} {S S0 S1 T T1 T2 U : Sta} {E : En} {Z : Ends}
/-! ### a call -/
def callK (ms : List Md) (Wf : DF) (p : List Nat) (xs : List (Kd × D)) (ρ : Rho) (P : Po (Kd × D)) : Prop :=
  (argsOk ms xs ∧ nodupB (borS xs) = true) ∧ Wf (xs.map (·.2)) ⟨fun z ds' => P.ok (p ++ borS xs) z (putBack xs ds' ρ), fun C fl ds' => P.ex C fl (putBack xs ds' ρ)⟩
theorem Has.back {kd : Kd} {v : V} {d : D} {pn : Nat → Option V} {σA : L2.St} {ρA : Rho} {fA f2 : Own} {σ2 : L2.St} {ρ2 : Rho} (ok : T.ok K) (sub : ∀ a, Ow fA a → Ow T.f a) (hk : retK kd = true) (h : Has K ⟨pn, T.G, T.H, σA, ρA, fA⟩ U kd v d)
    (last : ∀ a, Ow f2 a → ¬ Ow U.f a → (Ow T.f a ∧ ¬ Ow fA a)) : Has K T ⟨T.pin, U.G, U.H, σ2, ρ2, f2⟩ kd v d := by
  cases kd with
  | fz => exact h
  | bor i p m => cases hk
  | new m =>
    obtain ⟨fp, r, n, k⟩ := h
    refine ⟨fp, r, n, fun a ha => ⟨(k a ha).1, fun z => ?_, ?_⟩⟩
    · obtain ⟨q1, q2⟩ := last a z (k a ha).2.1
      rcases (k a ha).2.2 with z | z
      · exact q2 z
      · exact ok.own q1 z
    · rcases (k a ha).2.2 with z | z
      · exact .inl (sub a z)
      · exact .inr z
/-- the callee's promise, from what is known of the arguments -/
theorem run_call {ms : List Md} {Wf : DF} {p : List Nat} {xs : List (Kd × D)} {vs : List V} {P : Po (Kd × D)} {Q : VK} {EX : XK} (ok : T.ok K) (hx : HasA K S0 T vs xs) (c : callK ms Wf p xs T.ρ P)
    (k : ∀ q x (U : Sta), P.ok q x U.ρ → q = p ++ borS xs → U.σ = T.σ → U.ok K → T.to U → Tch (borS xs) T U → ∀ v : V, Has K T U x.1 v x.2 → Q v U.H)
    (ex : ∀ C fl (U : Sta), P.ex C fl U.ρ → U.σ = T.σ → U.ok K → T.to U → ∀ dd : Option Addr, XD K U.G U.H dd fl → EX (.ref C) dd U.H) : spV K ms ms Wf vs T.H Q EX := by
  obtain ⟨⟨c1, c2⟩, c3⟩ := c
  obtain ⟨fA, sA, sub, back⟩ := call_state ok hx c1 c2
  obtain ⟨hl, _⟩ := argsOk_get c1
  refine ⟨⟨fun i => vs[i]?, T.G, T.H, vs.map some, zr ms (xs.map (·.2)), fA⟩, xs.map (·.2), _, rfl, rfl, rfl, by rw [hx.len, hl], by rw [List.length_map, hl], rfl, sA, c3, fun z ds' U e hd hσ hρ okU t hk v hv => ?_, fun C fl ds' U e hd hσ hρ okU t dd hdd => ?_⟩
  · obtain ⟨f2, b1, b2, b3, b4⟩ := back ds' U hd hσ hρ okU t
    exact k _ z ⟨T.pin, U.G, U.H, T.σ, putBack xs ds' T.ρ, f2⟩ e rfl rfl b1 b2 b3 v (Has.back ok sub hk hv b4)
  · obtain ⟨f2, b1, b2, b3, b4⟩ := back ds' U hd hσ hρ okU t
    exact ex C fl ⟨T.pin, U.G, U.H, T.σ, putBack xs ds' T.ρ, f2⟩ e rfl b1 b2 dd hdd
def wCall (ms : List Md) (Wf : DF) (dfl : List D) (wa : DE (List (Kd × D))) : DE (Kd × D) := fun ρ P => wa ρ ⟨fun p xs ρ1 => callK ms Wf p (xs ++ dfl.map fun d => (.fz, d)) ρ1 P, P.ex⟩
theorem HasA.append {vs ws : List V} {ds es : List (Kd × D)} (h : HasA K S0 T vs ds) (h' : HasA K S0 T ws es) : HasA K S0 T (vs ++ ws) (ds ++ es) := by
  induction h with
  | nil => exact h'
  | cons h t ih => exact .cons h ih
theorem HasA.of_fz : ∀ {vs : List V} {ds : List D}, DtA K T.G vs ds → HasA K S0 T vs (ds.map fun d => (Kd.fz, d))
  | _, _, .nil => .nil
  | _, _, .cons h t => .cons h (HasA.of_fz t)
theorem te_call {ms : List Md} {Wf : DF} {dfl : List D} {dvs : List V} {wa : DE (List (Kd × D))} {Q : VK} (hd : ∀ G, DtA K G dvs dfl) (h : te K W (wCall ms Wf dfl wa) σ H Q) : tCallSD (spV K ms ms Wf) dvs (WE W) (ta K W wa) σ H Q := by
  obtain ⟨S, P, rfl, rfl, ok, w, k, ex⟩ := h
  refine ⟨S, _, rfl, rfl, ok, w, fun p xs T w1 e1 ok1 t1 pr1 vs h1 => ?_, ex⟩
  have hd' : HasA K S T dvs (dfl.map fun d => (Kd.fz, d)) := HasA.of_fz (hd T.G)
  refine run_call (S0 := S) ok1 (h1.append hd') w1 (fun q x U e eq es okU tU pr v hv => ?_) (fun C fl U e es okU tU dd hdd => ?_)
  · exact k _ _ U e (es.trans e1) okU (t1.trans tU) (eq ▸ pr1.trans pr) v (hv.from t1)
  · exact ex C fl U e (es.trans e1) okU (t1.trans tU) dd hdd
/-- without what is lent: an answer that is no object -/
def scD : D → Bool
  | .non => true
  | .bl _ => true
  | .int _ => true
  | .str _ => true
  | _ => false
theorem Dt.sc {v : V} {d : D} (h : Dt K G v d) (hs : scD d = true) (G' : Hp) : Dt K G' v d := by
  cases h with
  | non => exact .non
  | bl => exact .bl _
  | int => exact .int _
  | str => exact .str _
  | lst => cases hs
  | tup => cases hs
  | dct => cases hs
  | obj => cases hs
  | scr => cases hs
  | exc => cases hs
  | exf => cases hs
  | ndc => cases hs
def wCallB (n : Nat) (Wf : DF) (dfl : List D) (wa : DE (List (Kd × D))) : DE (Kd × D) := fun ρ P => wa ρ ⟨fun p xs ρ1 => xs.length + dfl.length = n ∧ Wf (xs.map (·.2) ++ dfl) ⟨fun z _ => scD z.2 = true ∧ P.ok p (.fz, z.2) ρ1, fun C fl _ => fl = [] ∧ P.ex C [] ρ1⟩, P.ex⟩
theorem zrF : ∀ {ds : List D} {k : Nat} {m : Md} {d : D}, (zr (List.replicate ds.length .F) ds)[k]? = some (some (m, d)) → m = .F ∧ ds[k]? = some d := by
  intro ds k m d h
  obtain ⟨h1, h2⟩ := zr_get.mp h
  rw [List.getElem?_replicate] at h1
  split at h1
  · cases h1; exact ⟨rfl, h2⟩
  · cases h1
theorem DtA.get' {vs : List V} {ds : List D} (h : DtA K G vs ds) {k : Nat} {d : D} (e : ds[k]? = some d) : ∃ v, vs[k]? = some v ∧ Dt K G v d := DtA.get h e
theorem te_callB {n : Nat} {Wf : DF} {dfl : List D} {dvs : List V} {wa : DE (List (Kd × D))} {Q : VK} (hd : ∀ G, DtA K G dvs dfl) (h : te K W (wCallB n Wf dfl wa) σ H Q) : tCallSD (spV K (List.replicate n .F) (List.replicate n .F) Wf) dvs (WE W) (ta K W wa) σ H Q := by
  obtain ⟨S, P, rfl, rfl, ok, w, k, ex⟩ := h
  refine ⟨S, _, rfl, rfl, ok, w, fun p xs T w1 e1 ok1 t1 pr1 vs h1 => ?_, ex⟩
  obtain ⟨hn, w1⟩ := w1
  have hall : ∀ G, Ex T.H G → DtA K G (vs ++ dvs) (xs.map (·.2) ++ dfl) := fun G e => DtA.append ((h1.dts ok1).mono e) (hd G)
  have hlen : (xs.map (·.2) ++ dfl).length = n := by simp [hn]
  have gx : Ex T.H (Gadd T.G T.H (fun a => T.H a ≠ none)) := fun a o e => by
    rw [Gadd.in (show T.H a ≠ none by rw [e]; exact fun z => nomatch z)]; exact e
  have hA := hall _ gx
  have hvl : (vs ++ dvs).length = n := by rw [hA.len, hlen]
  subst hlen
  have sA : Sta.ok K ⟨fun i => (vs ++ dvs)[i]?, Gadd T.G T.H (fun a => T.H a ≠ none), T.H, (vs ++ dvs).map some, zr (List.replicate (xs.map (·.2) ++ dfl).length .F) (xs.map (·.2) ++ dfl), fun _ => []⟩ := {
    ext := Gadd.sub ok1.ext
    len := by rw [zr_len (by simp), List.length_replicate, List.length_map, hvl]
    slot := fun i m d e => by
      obtain ⟨rfl, e2⟩ := zrF e
      obtain ⟨v, hv, dv⟩ := hA.get' e2
      exact ⟨v, by rw [List.getElem?_map, hv]; rfl, .F dv⟩
    emp := fun _ _ => rfl
    nd := fun _ => List.nodup_nil
    dj := fun _ _ _ h => nomatch h
    out := fun _ _ h => nomatch h
    pins := fun i m d e => by
      obtain ⟨z, _⟩ := zrF e
      cases z }
  -- the state behind
  have back : ∀ U : Sta, U.ok K → Sta.to ⟨fun i => (vs ++ dvs)[i]?, Gadd T.G T.H (fun a => T.H a ≠ none), T.H, (vs ++ dvs).map some, zr (List.replicate (xs.map (·.2) ++ dfl).length .F) (xs.map (·.2) ++ dfl), fun _ => []⟩ U →
      Grow T.G T.H (Gadd U.G T.G (fun a => T.H a ≠ none)) U.H := fun U okU t => by
    have hx : Ex T.H U.H := fun a o e => t.stp.keep a o e fun ⟨_, z⟩ => nomatch z
    have tg : Ex T.G (Gadd U.G T.G (fun a => T.H a ≠ none)) := fun a o e => by
      rw [Gadd.in (show T.H a ≠ none by rw [ok1.ext a o e]; exact fun z => nomatch z)]; exact e
    refine ⟨tg, hx, fun a o e => ?_, fun a h => Gadd.in h⟩
    by_cases c : T.H a ≠ none
    · rw [Gadd.in c] at e; exact hx a o (ok1.ext a o e)
    · rw [Gadd.out c] at e; exact okU.ext a o e
  refine ⟨⟨fun i => (vs ++ dvs)[i]?, Gadd T.G T.H (fun a => T.H a ≠ none), T.H, (vs ++ dvs).map some, zr (List.replicate (xs.map (·.2) ++ dfl).length .F) (xs.map (·.2) ++ dfl), fun _ => []⟩, xs.map (·.2) ++ dfl, _, rfl, rfl, rfl, by rw [hvl, List.length_replicate], by rw [List.length_replicate], rfl, sA, w1, fun z ds' U e _ _ _ okU t hk v hv => ?_, fun C fl ds' U e _ _ _ okU t dd hdd => ?_⟩
  · have g := back U okU t
    refine k _ _ (T.at (Gadd U.G T.G (fun a => T.H a ≠ none)) U.H) e.2 e1 (Sta.grow ok1 g) (t1.trans g.to) (pr1.add g.tch) v ?_
    exact (hv.dt okU).sc e.1 _
  · have g := back U okU t
    obtain ⟨rfl, e⟩ := e
    refine ex C [] (T.at (Gadd U.G T.G (fun a => T.H a ≠ none)) U.H) e e1 (Sta.grow ok1 g) (t1.trans g.to) dd ?_
    rcases hdd with ⟨_, rfl⟩ | ⟨a, fs, h0, rfl, h1, h2⟩
    · exact .inl ⟨rfl, rfl⟩
    · exact absurd rfl h0
section
variable {k : Nat} {fa : Addr} {fd : FuncData} {ps : List Str} {ms : List Md} {Wf : DF} {x : Str} {p pos : Pos} {e : Expr} {es : List Expr} {wa : DE (List (Kd × D))} {dfl : List D} {dvs : List V} {dvl : List Value} {n : Nat}
theorem q_call (F : FnOk X.prog X.w X.K X.mg X.base (L2.CX X.prog X.w) k fa fd ps (spV X.K ms ms Wf)) (hr : Room k X.A) (hm : X.mg x = some (.ref fa)) (hk : PySem.W.keepIn X.K (.ref fa) = true) (hb : Binds X.K fd ps []) (tk : Takes X W)
    (ha : PA X (e :: es) (ta X.K W wa)) (hg : Gl X x := by rfl) (hdb : (x == ("__debug__" : Str)) = false := by decide) (he : starEach (e :: es) X.env = (false, eval e X.env) :: starEach es X.env := by rfl) (hpl : (backTo pos (starEach es X.env)).any (·.1) = false := by rfl) :
    PE X (.Call (.Name x p) (e :: es) [] pos) (te X.K W (wCall ms Wf [] wa)) :=
  PE.imp (pe_callSD F hr hg hm hk hb .nil (fun σ => passAt tk σ) ha hdb he hpl) fun _ _ _ h => te_call (fun _ => .nil) h
theorem q_callS (F : FnOk X.prog X.w X.K X.mg X.base (L2.CX X.prog X.w) k fa fd ps (spV X.K (List.replicate n .F) (List.replicate n .F) Wf)) (hr : Room k X.A) (hm : X.mg x = some (.ref fa)) (hk : PySem.W.keepIn X.K (.ref fa) = true) (hb : Binds X.K fd ps []) (tk : Takes X W)
    (ha : PA X (e :: es) (ta X.K W wa)) (hg : Gl X x := by rfl) (hdb : (x == ("__debug__" : Str)) = false := by decide) (he : starEach (e :: es) X.env = (false, eval e X.env) :: starEach es X.env := by rfl) (hpl : (backTo pos (starEach es X.env)).any (·.1) = false := by rfl) :
    PE X (.Call (.Name x p) (e :: es) [] pos) (te X.K W (wCallB n Wf [] wa)) :=
  PE.imp (pe_callSD F hr hg hm hk hb .nil (fun σ => passAt tk σ) ha hdb he hpl) fun _ _ _ h => te_callB (fun _ => .nil) h
end
/-! ### slots frozen, moved -/
def wFrz (i : Nat) : DE (Kd × D) := fun ρ P => match ρ[i]? with
  | some (some (m, d)) => notP m = true ∧ P.ok [i] (.fz, d) (ρ.set i (some (.F, d)))
  | _ => False
theorem te_frz {i : Nat} {Q : VK} (h : te K W (wFrz i) σ H Q) : tVar i σ H Q := by
  obtain ⟨S, P, rfl, rfl, ok, w, k, _⟩ := h
  unfold wFrz at w
  split at w
  · rename_i m d e
    obtain ⟨v, hv, r⟩ := ok.slot i _ _ e
    have hlt := (List.getElem?_eq_some_iff.mp e).1
    have B : ∀ a, a ∈ S.f i → S.G a = none := fun a h => ok.out i a h
    have dv : Dt K (Gadd S.G S.H (· ∈ S.f i)) v d := r.dt (Gadd.ext B) fun a ha o q => by rw [Gadd.in ha]; exact q
    have sx : Sx K S.pin (Gadd S.G S.H (· ∈ S.f i)) S.H S.σ (S.ρ.set i (some (.F, d))) (S.f.set i []) := {
      ext := Gadd.sub ok.ext
      len := by simp [ok.len]
      slot := fun j m' d' e' => by
        by_cases c : j = i
        · subst c
          rw [List.getElem?_set_self hlt] at e'
          cases e'
          exact ⟨v, hv, by rw [Own.set_same]; exact .F dv⟩
        · rw [List.getElem?_set_ne (Ne.symm c)] at e'
          obtain ⟨u, h1, h2⟩ := ok.slot j m' d' e'
          exact ⟨u, h1, by rw [Own.set_ne c]; exact h2.keep (Gadd.ext B) fun a _ o h => h⟩
      emp := fun j e' => by
        by_cases c : j = i
        · subst c; exact Own.set_same
        · rw [Own.set_ne c]
          exact ok.emp j fun m' d' q => e' m' d' (by rw [List.getElem?_set_ne (Ne.symm c)]; exact q)
      nd := fun j => by
        by_cases c : j = i
        · subst c; rw [Own.set_same]; exact List.nodup_nil
        · rw [Own.set_ne c]; exact ok.nd j
      dj := fun j j' a h h' => by
        by_cases c : j = i
        · subst c; rw [Own.set_same] at h; cases h
        · by_cases c' : j' = i
          · subst c'; rw [Own.set_same] at h'; cases h'
          · rw [Own.set_ne c] at h; rw [Own.set_ne c'] at h'; exact ok.dj _ _ a h h'
      out := fun j a h => by
        by_cases c : j = i
        · subst c; rw [Own.set_same] at h; cases h
        · rw [Own.set_ne c] at h
          rw [Gadd.out fun z => c (ok.dj j i a h z)]
          exact ok.out j a h
      pins := fun j m' d' e' => by
        by_cases c : j = i
        · subst c; rw [List.getElem?_set_self hlt] at e'; cases e'
        · rw [List.getElem?_set_ne (Ne.symm c)] at e'
          exact ok.pins j m' d' e' }
    refine ⟨v, hv, k _ _ ⟨S.pin, Gadd S.G S.H (· ∈ S.f i), S.H, S.σ, S.ρ.set i (some (.F, d)), S.f.set i []⟩ w.2 rfl sx ⟨⟨Gadd.ext B, fun a o h _ => h, fun a _ h => Gadd.out fun z => h ⟨i, z⟩, fun a ⟨j, hj⟩ => ?_, fun _ h => h⟩, rfl⟩ (fun j hj => ?_) v dv⟩
    · by_cases c : j = i
      · subst c
        have hj' : a ∈ S.f.set j [] j := hj
        rw [Own.set_same] at hj'; cases hj'
      · have hj' : a ∈ S.f.set i [] j := hj
        rw [Own.set_ne c] at hj'; exact .inl ⟨j, hj'⟩
    · have c : j ≠ i := fun z => hj (by rw [z]; exact List.mem_cons_self)
      exact ⟨List.getElem?_set_ne (Ne.symm c), Own.set_ne c, fun _ _ _ h => h⟩
  · exact w.elim
def wMov (i : Nat) : DE (Kd × D) := fun ρ P => match ρ[i]? with
  | some (some (m, d)) => notP m = true ∧ P.ok [i] (.new m, d) (ρ.set i none)
  | _ => False
theorem te_mov {i : Nat} {Q : VK} (h : te K W (wMov i) σ H Q) : tVar i σ H Q := by
  obtain ⟨S, P, rfl, rfl, ok, w, k, _⟩ := h
  unfold wMov at w
  split at w
  · rename_i m d e
    obtain ⟨v, hv, r⟩ := ok.slot i _ _ e
    refine ⟨v, hv, k _ _ ⟨S.pin, S.G, S.H, S.σ, S.ρ.set i none, S.f.set i []⟩ w.2 rfl (Sx.forget ok i) ⟨⟨Ex.refl _, fun a o h _ => h, fun _ _ _ => rfl, fun a ⟨j, hj⟩ => ?_, fun _ h => h⟩, rfl⟩ (fun j hj => ?_) v ⟨S.f i, r, ok.nd i, fun a ha => ⟨ok.out i a ha, fun ⟨j, hj⟩ => ?_, .inl ⟨i, ha⟩⟩⟩⟩
    · by_cases c : j = i
      · subst c
        have hj' : a ∈ S.f.set j [] j := hj
        rw [Own.set_same] at hj'; cases hj'
      · have hj' : a ∈ S.f.set i [] j := hj
        rw [Own.set_ne c] at hj'; exact .inl ⟨j, hj'⟩
    · have c : j ≠ i := fun z => hj (by rw [z]; exact List.mem_cons_self)
      exact ⟨List.getElem?_set_ne (Ne.symm c), Own.set_ne c, fun _ _ _ h => h⟩
    · by_cases c : j = i
      · subst c
        have hj' : a ∈ S.f.set j [] j := hj
        rw [Own.set_same] at hj'; cases hj'
      · have hj' : a ∈ S.f.set i [] j := hj
        rw [Own.set_ne c] at hj'
        exact c (ok.dj j i a hj' ha)
  · exact w.elim
section
variable {x : Str} {pos : Pos}
theorem q_frz (i : Nat) (hN : X.N[i]? = some x := by rfl) (hv : Vis X.env.scope x := by first | exact Or.inl rfl | exact Or.inr (Or.inl rfl) | exact Or.inr (Or.inr rfl)) (hd : (x == ("__debug__" : Str)) = false := by decide)
    (hcd : (x == ("__classdict__" : Str)) = false := by decide) : PE X (.Name x pos) (te X.K W (wFrz i)) := PE.imp (pv i hN hv hd hcd) fun _ _ _ h => te_frz h
theorem q_mov (i : Nat) (hN : X.N[i]? = some x := by rfl) (hv : Vis X.env.scope x := by first | exact Or.inl rfl | exact Or.inr (Or.inl rfl) | exact Or.inr (Or.inr rfl)) (hd : (x == ("__debug__" : Str)) = false := by decide)
    (hcd : (x == ("__classdict__" : Str)) = false := by decide) : PE X (.Name x pos) (te X.K W (wMov i)) := PE.imp (pv i hN hv hd hcd) fun _ _ _ h => te_mov h
end
end
end VL

namespace VL
open PySem PySem.Spec PyProof.Rows L2
section
variable {K : PySem.W.Frag} {W : WX} {G G' H H' H0 : Hp} {σ : L2.St} {ρ : Rho} {f f' : Own} {pin : Nat → Option V} {X : Cx} {S S0 S1 T T1 T2 U : Sta} {E : En} {Z : Ends}
/-! ### targets -/
abbrev DG := D → Rho → (Rho → Prop) → Prop
abbrev DGs := List D → Rho → (Rho → Prop) → Prop
/-- what a target does: the slots vs alone are stored -/
def tg (K : PySem.W.Frag) (vs : List Nat) (wg : DG) : TG := fun v σ H Q =>
  ∃ (S : Sta) (d : D) (P : Rho → Prop), S.σ = σ ∧ S.H = H ∧ S.ok K ∧ Dt K S.G v d ∧ wg d S.ρ P ∧ ∀ T : Sta, P T.ρ → T.ok K → S.to T → Tch vs S T → (∀ j, j ∉ vs → T.σ[j]? = S.σ[j]?) → T.σ.length = S.σ.length → Q T.σ T.H
def tgs (K : PySem.W.Frag) (vs : List Nat) (wg : DGs) : TGs := fun us σ H Q =>
  ∃ (S : Sta) (d : List D) (P : Rho → Prop), S.σ = σ ∧ S.H = H ∧ S.ok K ∧ DtA K S.G us d ∧ wg d S.ρ P ∧ ∀ T : Sta, P T.ρ → T.ok K → S.to T → Tch vs S T → (∀ j, j ∉ vs → T.σ[j]? = S.σ[j]?) → T.σ.length = S.σ.length → Q T.σ T.H
theorem PG.imp {e : Expr} {t t' : TG} (h : PG X e t) (k : ∀ v σ H Q, t' v σ H Q → t v σ H Q) : PG X e t' := ⟨fun pins s σ H v u Q I r q => h.run pins s σ H v u Q I r (k v σ H Q q)⟩
theorem PGs.imp {e : List Expr} {t t' : TGs} (h : PGs X e t) (k : ∀ v σ H Q, t' v σ H Q → t v σ H Q) : PGs X e t' := ⟨fun pins s σ H v u Q I r q => h.run pins s σ H v u Q I r (k v σ H Q q)⟩
def wgN (i : Nat) : DG := fun d ρ P => okSlot ρ i = true ∧ P (ρ.set i (some (.F, d)))
def wgNil : DGs := fun ds ρ P => match ds with
  | [] => P ρ
  | _ => False
def wgCons (a : DG) (b : DGs) : DGs := fun ds ρ P => match ds with
  | d :: ds => a d ρ fun ρ' => b ds ρ' P
  | _ => False
def wgTup (n : Nat) (a : DGs) : DG := fun d ρ P => match d with
  | .tup ds => ds.length = n ∧ a ds ρ P
  | _ => False
theorem Tch.put {i : Nat} {v : V} {m : Md} {d : D} {fp : List Addr} : Tch [i] T (T.put i v m d fp) := fun j hj => by
  have c : j ≠ i := fun z => hj (by rw [z]; exact List.mem_cons_self)
  exact ⟨List.getElem?_set_ne (Ne.symm c), Own.set_ne c, fun _ _ _ h => h⟩
theorem tg_name {i : Nat} {v : V} {Q : L2.St → Hp → Prop} (h : tg K [i] (wgN i) v σ H Q) : gName i v σ H Q := by
  obtain ⟨S, d, P, rfl, rfl, ok, hd, w, k⟩ := h
  refine k (S.put i v .F d []) w.2 (Sx.put ok w.1 rfl (.F hd) List.nodup_nil fun _ h => nomatch h) ((Sta.refl S).put fun _ h => nomatch h) Tch.put (fun j hj => ?_) ?_
  · exact List.getElem?_set_ne fun z => hj (by rw [z]; exact List.mem_cons_self)
  · exact List.length_set
theorem tgs_nil {us : List V} {Q : L2.St → Hp → Prop} (h : tgs K [] wgNil us σ H Q) : gNil us σ H Q := by
  obtain ⟨S, d, P, rfl, rfl, ok, hd, w, k⟩ := h
  cases hd with
  | nil => exact ⟨rfl, k S w ok (Sta.refl S) (Tch.refl S _) (fun _ _ => rfl) rfl⟩
  | cons h t => exact w.elim
theorem tgs_cons {a : DG} {b : DGs} {va vb : List Nat} {us : List V} {Q : L2.St → Hp → Prop} (h : tgs K (va ++ vb) (wgCons a b) us σ H Q) : gCons (tg K va a) (tgs K vb b) us σ H Q := by
  obtain ⟨S, d, P, rfl, rfl, ok, hd, w, k⟩ := h
  cases hd with
  | nil => exact w.elim
  | @cons v d us ds h t =>
    refine ⟨v, us, rfl, S, d, _, rfl, rfl, ok, h, w, fun T e okT tT ch hs hl => ?_⟩
    refine ⟨T, ds, _, rfl, rfl, okT, t.mono tT.stp.gext, e, fun U e' okU tU ch' hs' hl' => ?_⟩
    exact k U e' okU (tT.trans tU) (ch.trans ch') (fun j hj => (hs' j fun z => hj (List.mem_append_right _ z)).trans (hs j fun z => hj (List.mem_append_left _ z))) (hl'.trans hl)
theorem tg_tup {n : Nat} {a : DGs} {vs : List Nat} {v : V} {Q : L2.St → Hp → Prop} (h : tg K vs (wgTup n a) v σ H Q) : gTup K n (tgs K vs a) v σ H Q := by
  obtain ⟨S, d, P, rfl, rfl, ok, hd, w, k⟩ := h
  unfold wgTup at w
  split at w
  · rename_i ds
    cases hd with
    | tup hs ha => exact ⟨_, _, rfl, ok.ext.t hs, by rw [ha.len]; exact w.1, S, ds, P, rfl, rfl, ok, ha, w.2, k⟩
  · exact w.elim
theorem q_gname (i : Nat) {x : Str} {pos : Pos} (hN : X.N.Nodup) (hi : X.N[i]? = some x := by rfl) (hx : Loc X.env.scope x := by first | exact Or.inl rfl | exact Or.inr rfl) (hf : X.fn x = true ∨ X.env.scope.names.lookup x = some .local := by first | exact .inl rfl | exact .inr rfl | assumption) : PG X (.Name x pos) (tg X.K [i] (wgN i)) :=
  PG.imp (pg_name hN hi hx hf) fun _ _ _ _ h => tg_name h
theorem q_gnil : PGs X [] (tgs X.K [] wgNil) := PGs.imp pgs_nil fun _ _ _ _ h => tgs_nil h
theorem q_gcons {e : Expr} {es : List Expr} {a : DG} {b : DGs} {va vb : List Nat} (h1 : PG X e (tg X.K va a)) (h2 : PGs X es (tgs X.K vb b)) (hs : (assignEach (e :: es) X.env).map (·.2) = assign e X.env :: (assignEach es X.env).map (·.2) := by rfl) : PGs X (e :: es) (tgs X.K (va ++ vb) (wgCons a b)) :=
  PGs.imp (pgs_cons h1 h2 hs) fun _ _ _ _ h => tgs_cons h
theorem q_gtup {es : List Expr} {k n : Nat} {a : DGs} {vs : List Nat} {pos : Pos} (hc : X.calm = true) (h : PGs X es (tgs X.K vs a)) (hn : (assignEach es X.env).length = n := by rfl) (hst : (assignEach es X.env).findIdx? (·.1) = none := by rfl) : PG X (.Tuple es k pos) (tg X.K vs (wgTup n a)) :=
  PG.imp (pg_tup hc h hn hst) fun _ _ _ _ h => tg_tup h
/-- target = e -/
def wAsg (we : DE (Kd × D)) (g : DG) : DS := fun E ρ => wFz we ρ ⟨fun _ x ρ' => match x.1 with
  | .fz => g x.2 ρ' E.nx
  | _ => False, E.ex⟩
theorem ts_asg {we : DE (Kd × D)} {g : DG} {vs : List Nat} (h : ts K W (wAsg we g) Z σ H) : tAsg (te K W we) (tg K vs g) Z σ H := by
  obtain ⟨S, E, rfl, rfl, ok, w, l⟩ := h
  show te K W we S.σ S.H fun x H1 => tg K vs g x S.σ H1 Z.nx
  refine te_fz (te_in ok l w fun p x T e es okT t _ v hv => ?_)
  obtain ⟨kd, d⟩ := x
  cases kd with
  | fz => exact ⟨T, d, _, es, rfl, okT, hv, e, fun U e' okU tU _ _ _ => l.nx U e' okU (t.trans tU)⟩
  | bor i p m => exact e.elim
  | new m => exact e.elim
theorem q_asg {t e : Expr} {we : DE (Kd × D)} {g : DG} {vs : List Nat} {pos : Pos} (he : PE X e (te X.K W we)) (hg : PG X t (tg X.K vs g)) (hs : swapsWithSole [t] e pos.line X.env = pure false := by rfl) (hw : swappedStores [t] e X.env = pure none := by rfl)
    (h1 : (assignEach [t] X.env).map (·.2) = [assign t X.env] := by rfl) : PS X (.Assign [t] e pos) (ts X.K W (wAsg we g)) := PS.imp (ps_asg he hg hs hw h1) fun _ _ _ h => ts_asg h
/-- a, b = x, y -/
def par2 (i j : Nat) (xs : List (Kd × D)) (ρ : Rho) (q : Rho → Prop) : Prop := match xs with
  | [(.fz, d), (.fz, e)] => okSlot ρ i = true ∧ okSlot (ρ.set i (some (.F, d))) j = true ∧ q ((ρ.set i (some (.F, d))).set j (some (.F, e)))
  | _ => False
def wPar (i j : Nat) (wa : DE (List (Kd × D))) : DS := fun E ρ => wa ρ ⟨fun _ xs ρ' => par2 i j xs ρ' E.nx, E.ex⟩
/-! ### while -/
def wWhile (c : DE Bool) (b : DS) : DS := fun E ρ => ∃ I : Nat → Rho → Prop, (∃ m, I m ρ) ∧ ∀ m ρ, I m ρ → c ρ ⟨fun _ k ρ' => match k with
  | true => b { E with nx := fun ρ2 => ∃ m', m' < m ∧ I m' ρ2, ct := fun ρ2 => ∃ m', m' < m ∧ I m' ρ2, bk := E.nx } ρ'
  | false => E.nx ρ', E.ex⟩
theorem ts_while {c : DE Bool} {b : DS} (h : ts K W (wWhile c b) Z σ H) : tWhile (tt K W c) (ts K W b) Z σ H := by
  obtain ⟨S, E, rfl, rfl, ok, ⟨I, ⟨m0, i0⟩, w⟩, l⟩ := h
  refine ⟨fun m σ H => ∃ T : Sta, T.σ = σ ∧ T.H = H ∧ T.ok K ∧ S.to T ∧ I m T.ρ, ⟨m0, S, rfl, rfl, ok, Sta.refl S, i0⟩, ?_⟩
  rintro m _ _ ⟨T, rfl, rfl, okT, t, iT⟩
  refine ⟨T, _, rfl, rfl, okT, w m T.ρ iT, fun p k U e es okU tU _ v hv => ?_, fun C fl U e es okU tU dd hd => es ▸ l.ex C fl U e okU (t.trans tU) dd hd⟩
  subst hv
  have l' := l.to t
  cases v with
  | true =>
    refine ⟨fun σ' H' => ∃ m', m' < m ∧ ∃ T : Sta, T.σ = σ' ∧ T.H = H' ∧ T.ok K ∧ S.to T ∧ I m' T.ρ, fun _ _ h => h, U, _, es, rfl, okU, e, ?_⟩
    refine ⟨fun V ⟨m', hm, hi⟩ okV tV => ⟨m', hm, V, rfl, rfl, okV, (t.trans tU).trans tV, hi⟩, fun V e okV tV => l'.nx V e okV (tU.trans tV), fun V ⟨m', hm, hi⟩ okV tV => ⟨m', hm, V, rfl, rfl, okV, (t.trans tU).trans tV, hi⟩, ?_, ?_⟩
    · exact fun x V e okV tV v hv => l'.rt x V e okV (tU.trans tV) v (hv.from tU)
    · exact fun C fl V e okV tV dd hd => l'.ex C fl V e okV (tU.trans tV) dd hd
  | false =>
    show Z.nx T.σ U.H
    rw [← es]
    exact l'.nx U e okU tU
theorem q_while {c : Expr} {body : List Stmt} {wc : DE Bool} {wb : DS} {pos : Pos} (hp : PassesOwn (model X.prog X.w) X.A X.env X.xe) (hc : PT X c (tt X.K W wc)) (hb : PSs X body (ts X.K W wb)) : PS X (.While c body [] pos) (ts X.K W (wWhile wc wb)) :=
  PS.imp (ps_while hp hc hb) fun _ _ _ h => ts_while h
/-! ### what is walked -/
/-- J yields the items ds, one after another, wherever all of G stands -/
def Src (K : PySem.W.Frag) (G : Hp) (J : It) (ds : List D) : Prop := ∀ (G1 H1 : Hp), Ex G G1 → Ex G1 H1 → ∀ i : Nat,
  (i < ds.length → J.go i H1) ∧ (ds.length ≤ i → J.stop i H1) ∧ ∀ (x : V) (H2 : Hp) (d : D), J.yld i H1 x H2 → ds[i]? = some d → ∃ G2, Grow G1 H1 G2 H2 ∧ Dt K G2 x d
abbrev lI : Rl It (List D) := fun K _ S J ds => Src K S.G J ds
abbrev ti : PySem.W.Frag → WX → DE (List D) → TI := tgen lI
theorem PI.imp {tgt e : Expr} {t t' : TI} (h : PI X tgt e t) (k : ∀ σ H Q, t' σ H Q → t σ H Q) : PI X tgt e t' := ⟨fun pins s σ H Q I q => h.run pins s σ H Q I (k σ H Q q)⟩
def wFor (w : DE (List D)) (g : DG) (b : DS) : DS := fun E ρ => w ρ ⟨fun _ ds ρ1 => ∃ I : Nat → Rho → Prop, I 0 ρ1 ∧
  (∀ i d ρ2, ds[i]? = some d → I i ρ2 → g d ρ2 fun ρ3 => b { E with nx := I (i + 1), ct := I (i + 1), bk := E.nx } ρ3) ∧ (∀ ρ2, I ds.length ρ2 → E.nx ρ2), E.ex⟩
theorem ts_for {w : DE (List D)} {g : DG} {b : DS} {vs : List Nat} (h : ts K W (wFor w g b) Z σ H) : tFor (ti K W w) (tg K vs g) (ts K W b) Z σ H := by
  obtain ⟨S, E, rfl, rfl, ok, w, l⟩ := h
  refine ⟨S, _, rfl, rfl, ok, w, fun p ds T e es okT t _ J hJ => ?_, fun C fl T e es okT tT dd hd => es ▸ l.ex C fl T e okT tT dd hd⟩
  obtain ⟨I, i0, istep, iend⟩ := e
  refine ⟨fun i n σ H => n + i = ds.length ∧ ∃ U : Sta, U.σ = σ ∧ U.H = H ∧ U.ok K ∧ T.to U ∧ I i U.ρ, ⟨ds.length, rfl, T, es, rfl, okT, Sta.refl T, i0⟩, ?_⟩
  rintro i n _ _ ⟨hn, U, rfl, rfl, okU, tU, iU⟩
  obtain ⟨h1, h2, h3⟩ := hJ U.G U.H tU.stp.gext okU.ext i
  have l' := l.to (t.trans tU)
  by_cases c : i < ds.length
  · refine .inr ⟨h1 c, fun σ' H' => ∃ V : Sta, V.σ = σ' ∧ V.H = H' ∧ V.ok K ∧ T.to V ∧ I (i + 1) V.ρ, fun σ' H' hV => ⟨n - 1, by omega, by omega, hV⟩, fun x H2 hy => ?_⟩
    have hd : ds[i]? = some ds[i] := List.getElem?_eq_getElem c
    obtain ⟨G2, gr, dx⟩ := h3 x H2 ds[i] hy hd
    refine ⟨U.at G2 H2, ds[i], _, rfl, rfl, Sta.grow okU gr, dx, istep i _ U.ρ hd iU, fun V e okV tV _ _ _ => ?_⟩
    refine ⟨V, _, rfl, rfl, okV, e, ?_⟩
    have tUV : U.to V := gr.to.trans tV
    refine ⟨fun A hA okA tA => ⟨A, rfl, rfl, okA, (tU.trans tUV).trans tA, hA⟩, fun A e okA tA => l'.nx A e okA (tUV.trans tA), fun A hA okA tA => ⟨A, rfl, rfl, okA, (tU.trans tUV).trans tA, hA⟩, ?_, ?_⟩
    · exact fun x A e okA tA v hv => l'.rt x A e okA (tUV.trans tA) v (hv.from tUV)
    · exact fun C fl A e okA tA dd hd => l'.ex C fl A e okA (tUV.trans tA) dd hd
  · have hi : i = ds.length := by omega
    refine .inl ⟨h2 (by omega), ?_⟩
    exact l'.nx U (iend U.ρ (by rw [← hi]; exact iU)) okU (Sta.refl U)
theorem q_for {tgt iter : Expr} {body : List Stmt} {w : DE (List D)} {g : DG} {b : DS} {vs : List Nat} {pos : Pos} (hp : PassesOwn (model X.prog X.w) X.A X.env X.xe) (hc : X.calm = true) (hi : PI X tgt iter (ti X.K W w)) (hg : PG X tgt (tg X.K vs g)) (hb : PSs X body (ts X.K W b))
    (hs : ∀ x, foldedSetIterable iter X.env x = pure x := by intro _; rfl) : PS X (.For tgt iter body [] pos) (ts X.K W (wFor w g b)) := PS.imp (ps_for hp hc hi hg hb hs) fun _ _ _ h => ts_for h
end
end VL

namespace VL
open PySem PySem.Spec PyProof.Rows L2
section
variable {K : PySem.W.Frag} {W : WX} {G G' H H' H0 : Hp} {σ : L2.St} {ρ : Rho} {f f' : Own} {pin : Nat → Option V} {X : Cx} {S S0 S1 T T1 T2 U : Sta} {E : En} {Z : Ends}
/-! ### a list comprehension -/
def wipeR (ρ : Rho) : List Nat → Rho
  | [] => ρ
  | v :: vs => (wipeR ρ vs).set v none
def wipeF (f : Own) : List Nat → Own
  | [] => f
  | v :: vs => (wipeF f vs).set v []
theorem Sx.wipe (S : Sx K pin G H σ ρ f) : ∀ vs : List Nat, Sx K pin G H σ (wipeR ρ vs) (wipeF f vs)
  | [] => S
  | v :: vs => (Sx.wipe S vs).forget v
theorem wipeF_sub {a : Addr} : ∀ {vs : List Nat} {i : Nat}, a ∈ wipeF f vs i → a ∈ f i
  | [], _, h => h
  | v :: vs, i, h => by
    by_cases c : i = v
    · subst c
      have h' : a ∈ (wipeF f vs).set i [] i := h
      rw [Own.set_same] at h'; cases h'
    · have h' : a ∈ (wipeF f vs).set v [] i := h
      rw [Own.set_ne c] at h'; exact wipeF_sub h'
theorem wipeR_none : ∀ {vs : List Nat} {v : Nat} {x : Md × D}, v ∈ vs → (wipeR ρ vs)[v]? ≠ some (some x)
  | w :: vs, v, x, h => fun e => by
    by_cases c : v = w
    · subst c
      have e' : ((wipeR ρ vs).set v none)[v]? = some (some x) := e
      by_cases l : v < (wipeR ρ vs).length
      · rw [List.getElem?_set_self l] at e'; cases e'
      · rw [List.getElem?_eq_none (by simpa using l)] at e'; cases e'
    · have e' : ((wipeR ρ vs).set w none)[v]? = some (some x) := e
      rw [List.getElem?_set_ne (Ne.symm c)] at e'
      exact wipeR_none ((List.mem_cons.mp h).resolve_left c) e'
theorem wipeR_ne : ∀ {vs : List Nat} {v : Nat}, v ∉ vs → (wipeR ρ vs)[v]? = ρ[v]?
  | [], _, _ => rfl
  | w :: vs, v, h => by
    have c : v ≠ w := fun z => h (by rw [z]; exact List.mem_cons_self)
    show ((wipeR ρ vs).set w none)[v]? = _
    rw [List.getElem?_set_ne (Ne.symm c), wipeR_ne fun z => h (List.mem_cons_of_mem _ z)]
theorem wipeF_ne : ∀ {vs : List Nat} {v : Nat}, v ∉ vs → wipeF f vs v = f v
  | [], _, _ => rfl
  | w :: vs, v, h => by
    have c : v ≠ w := fun z => h (by rw [z]; exact List.mem_cons_self)
    show (wipeF f vs).set w [] v = _
    rw [Own.set_ne c, wipeF_ne fun z => h (List.mem_cons_of_mem _ z)]
theorem wipe_ne {σ : L2.St} : ∀ {vs : List Nat} {v : Nat}, v ∉ vs → (wipe σ vs)[v]? = σ[v]?
  | [], _, _ => rfl
  | w :: vs, v, h => by
    have c : v ≠ w := fun z => h (by rw [z]; exact List.mem_cons_self)
    show ((wipe σ vs).set w none)[v]? = _
    rw [List.getElem?_set_ne (Ne.symm c), wipe_ne fun z => h (List.mem_cons_of_mem _ z)]
theorem wipe_in {σ : L2.St} : ∀ {vs : List Nat} {v : Nat}, v ∈ vs → (wipe σ vs)[v]? = if v < σ.length then some none else none
  | w :: vs, v, h => by
    by_cases c : v = w
    · subst c
      show ((wipe σ vs).set v none)[v]? = _
      by_cases l : v < σ.length
      · rw [if_pos l, List.getElem?_set_self (by rw [wipe_length]; exact l)]
      · rw [if_neg l, List.getElem?_eq_none (by rw [List.length_set, wipe_length]; omega)]
    · show ((wipe σ vs).set w none)[v]? = _
      rw [List.getElem?_set_ne (Ne.symm c)]
      exact wipe_in ((List.mem_cons.mp h).resolve_left c)
theorem wipe_eq {σ τ : L2.St} {vs : List Nat} (h : ∀ j, j ∉ vs → τ[j]? = σ[j]?) (l : τ.length = σ.length) : wipe τ vs = wipe σ vs := by
  refine List.ext_getElem? fun j => ?_
  by_cases c : j ∈ vs
  · rw [wipe_in c, wipe_in c, l]
  · rw [wipe_ne c, wipe_ne c, h j c]
/-- other slots' values may stand where the data knows nothing -/
theorem Sx.slots {τ : L2.St} (S : Sx K pin G H σ ρ f) (l : τ.length = σ.length) (h : ∀ (i : Nat) (x : Md × D), ρ[i]? = some (some x) → τ[i]? = σ[i]?) : Sx K pin G H τ ρ f where
  ext := S.ext
  len := S.len.trans l.symm
  slot := fun i m d e => by
    obtain ⟨v, h1, h2⟩ := S.slot i m d e
    exact ⟨v, by rw [h i _ e]; exact h1, h2⟩
  emp := S.emp
  nd := S.nd
  dj := S.dj
  out := S.out
  pins := fun i m d e => by
    obtain ⟨v, h1, h2⟩ := S.pins i m d e
    exact ⟨v, h1, by rw [h i _ e]; exact h2⟩
/-- a thing that is neither frozen nor a slot's is changed -/
theorem Sx.aside (S : Sx K pin G H σ ρ f) {a : Addr} {o : HO} (h1 : G a = none) (h2 : ¬ Ow f a) : Sx K pin G (upd H a o) σ ρ f where
  ext := fun b u e => by rw [upd_ne (ne_of_none e h1)]; exact S.ext b u e
  len := S.len
  slot := fun i m d e => by
    obtain ⟨v, g1, g2⟩ := S.slot i m d e
    exact ⟨v, g1, g2.keep (Ex.refl _) fun b hb u q => by rw [upd_ne fun z : b = a => h2 ⟨i, by rw [← z]; exact hb⟩]; exact q⟩
  emp := S.emp
  nd := S.nd
  dj := S.dj
  out := S.out
  pins := S.pins
def subL (p q : List Nat) : Bool := p.all fun i => q.contains i
theorem subL_of {p q : List Nat} (h : subL p q = true) : ∀ i ∈ p, i ∈ q := fun i hi => by
  have := List.all_eq_true.mp h i hi
  simpa using this
theorem Tch.mono {p q : List Nat} (h : Tch p S T) (s : ∀ i ∈ p, i ∈ q) : Tch q S T := fun i hi => h i fun z => hi (s i z)
def noEx : Addr → List (Str × D) → Rho → Prop := fun _ _ _ => False
/-- one turn -/
def lcTurn (g : DG) (t : DE Bool) (we : DE (Kd × D)) (vs q : List Nat) (d : D) (acc : List D) (ρ : Rho) (N : List D → Rho → Prop) : Prop :=
  g d ρ fun ρ3 => t ρ3 ⟨fun p4 b ρ4 => subL p4 q = true ∧ match b with
    | true => wFz we ρ4 ⟨fun p5 x ρ5 => (subL p5 q = true ∧ allFz [x] = true ∧ small (acc.length + 1) = true) ∧ N (acc ++ [x.2]) (wipeR ρ5 vs), noEx⟩
    | false => N acc (wipeR ρ4 vs), noEx⟩
def wLc (w : DE (List D)) (g : DG) (t : DE Bool) (we : DE (Kd × D)) (vs q : List Nat) : DE (Kd × D) := fun ρ P => w ρ ⟨fun p ds ρ1 => ∃ I : Nat → List D → Rho → Prop, I 0 [] (wipeR ρ1 vs) ∧
  (∀ i d acc ρ2, ds[i]? = some d → I i acc ρ2 → lcTurn g t we vs q d acc ρ2 (I (i + 1))) ∧ (∀ acc ρ2, I ds.length acc ρ2 → P.ok (p ++ (vs ++ q)) (.new (.L .F), .lst acc) ρ2), P.ex⟩
theorem te_lc {w : DE (List D)} {g : DG} {t : DE Bool} {we : DE (Kd × D)} {vs q : List Nat} {Q : VK} (h : te K W (wLc w g t we vs q) σ H Q) :
    tLc (ti K W w) (tg K vs g) (tt K (fun _ _ _ _ => False) t) (te K (fun _ _ _ _ => False) we) vs σ H Q := by
  obtain ⟨S, P, rfl, rfl, ok, w, k, ex⟩ := h
  refine ⟨S, _, rfl, rfl, ok, w, fun p ds T e es okT tT pr J hJ Dn hD => ?_, ex⟩
  obtain ⟨I, i0, istep, iend⟩ := e
  -- the state at the block's start
  have okB : Sx K T.pin T.G T.H (wipe S.σ vs) (wipeR T.ρ vs) (wipeF T.f vs) := (Sx.wipe okT vs).slots (by rw [wipe_length, es]) fun i x hx => by
    rw [← es]
    exact wipe_ne fun z => wipeR_none z hx
  have hDf : ∀ a, Ow (wipeF T.f vs) a → Ow T.f a := fun a ⟨i, hi⟩ => ⟨i, wipeF_sub hi⟩
  have gD : T.G Dn = none := okT.ext.free hD
  have fD : ¬ Ow (wipeF T.f vs) Dn := fun z => okT.own (hDf Dn z) hD
  -- between two turns
  refine ⟨fun i n H => n + i = ds.length ∧ ∃ (U : Sta) (acc : List D) (va : List V), U.σ = wipe S.σ vs ∧ U.H = H ∧ U.ok K ∧ T.to U ∧ Tch (vs ++ q) T U ∧ H Dn = some (.lst va) ∧ DtA K U.G va acc ∧ U.G Dn = none ∧ ¬ Ow U.f Dn ∧ I i acc U.ρ ∧ (∀ v ∈ vs, ∀ x, U.ρ[v]? ≠ some (some x)), ⟨ds.length, rfl, ⟨T.pin, T.G, upd T.H Dn (.lst []), wipe S.σ vs, wipeR T.ρ vs, wipeF T.f vs⟩, [], [], rfl, rfl, okB.aside gD fD, ⟨⟨Ex.refl _, fun a o ha _ => ?_, fun _ _ _ => rfl, fun a ha => .inl (hDf a ha), fun a ha => ?_⟩, rfl⟩, fun j hj => ?_, upd_same, .nil, gD, fD, i0, fun v hv x => wipeR_none hv⟩, ?_⟩
  · show upd T.H Dn _ a = _
    rw [upd_ne (ne_of_none ha hD)]; exact ha
  · show upd T.H Dn _ a ≠ none
    by_cases c : a = Dn
    · subst c; rw [upd_same]; exact fun z => nomatch z
    · rw [upd_ne c]; exact ha
  · have hj1 : j ∉ vs := fun z => hj (List.mem_append_left _ z)
    exact ⟨wipeR_ne hj1, wipeF_ne hj1, fun a ha o ho => by
      show upd T.H Dn _ a = _
      rw [upd_ne (ne_of_none ho hD)]; exact ho⟩
  rintro i n _ ⟨hn, U, acc, va, hσ, rfl, okU, tU, chU, hva, dva, gU, fU, iU, nU⟩
  obtain ⟨h1, h2, h3⟩ := hJ U.G U.H tU.stp.gext okU.ext i
  by_cases c : i < ds.length
  · refine .inr ⟨h1 c, fun H' => ∃ (U : Sta) (acc : List D) (va : List V), U.σ = wipe S.σ vs ∧ U.H = H' ∧ U.ok K ∧ T.to U ∧ Tch (vs ++ q) T U ∧ H' Dn = some (.lst va) ∧ DtA K U.G va acc ∧ U.G Dn = none ∧ ¬ Ow U.f Dn ∧ I (i + 1) acc U.ρ ∧ (∀ v ∈ vs, ∀ x, U.ρ[v]? ≠ some (some x)), fun H' hV => ⟨n - 1, by omega, by omega, hV⟩, fun x H2 hy => ?_⟩
    have hd : ds[i]? = some ds[i] := List.getElem?_eq_getElem c
    obtain ⟨G2, gr, dx⟩ := h3 x H2 ds[i] hy hd
    have hDn : U.H Dn ≠ none := by rw [hva]; exact fun z => nomatch z
    have turn := istep i _ acc U.ρ hd iU
    refine ⟨U.at G2 H2, ds[i], _, hσ, rfl, Sta.grow okU gr, dx, turn, fun A eA okA tA chA hs hl => ?_⟩
    have hsA : wipe A.σ vs = wipe S.σ vs := by
      have h9 : wipe A.σ vs = wipe (wipe S.σ vs) vs := wipe_eq (fun j hj => by rw [← hσ]; exact hs j hj) (by rw [← hσ]; exact hl)
      rw [h9]
      exact wipe_eq (fun j hj => wipe_ne hj) (wipe_length _ _)
    refine ⟨hsA, A, _, rfl, rfl, okA, eA, fun p4 b B eB esB okB tB chB b' hb => ?_, fun _ _ _ z => z.elim⟩
    subst hb
    have tUA : U.to A := gr.to.trans tA
    have tUB : U.to B := tUA.trans tB
    have keepD : ∀ V : Sta, V.ok K → U.to V → V.H Dn = some (.lst va) ∧ V.G Dn = none ∧ ¬ Ow V.f Dn := fun V okV tV => ⟨tV.stp.keep Dn _ hva fU, by rw [tV.stp.gold Dn hDn fU]; exact gU, fun z => (tV.stp.fnew Dn z).elim fU hDn⟩
    have chUA : Tch vs U A := by
      have := gr.tch.trans chA
      exact this
    cases b' with
    | true =>
      rw [if_pos rfl, ← esB]
      refine te_fz ⟨B, _, rfl, rfl, okB, eB.2, fun p5 x V eV esV okV tV chV y hy => ?_, fun _ _ _ z => z.elim⟩
      obtain ⟨⟨s5, fz5, sz5⟩, eV⟩ := eV
      obtain ⟨k5, d5⟩ := x
      cases k5 with
      | bor i p m => cases fz5
      | new m => cases fz5
      | fz =>
        have tUV : U.to V := tUB.trans tV
        obtain ⟨q1, q2, q3⟩ := keepD V okV tUV
        refine ⟨va, q1, ?_, ?_⟩
        · have e9 : va.length = acc.length := dva.len
          rw [e9]
          exact Nat.lt_of_lt_of_le (Nat.lt_succ_self _) (small_sz sz5)
        refine ⟨⟨V.pin, V.G, upd V.H Dn (.lst (va ++ [y])), wipe S.σ vs, wipeR V.ρ vs, wipeF V.f vs⟩, acc ++ [d5], va ++ [y], rfl, rfl, ?_, ⟨⟨(tU.trans tUV).stp.gext, fun a o ha hf => ?_, (tU.trans tUV).stp.gold, fun a ⟨j, hj⟩ => (tU.trans tUV).stp.fnew a ⟨j, wipeF_sub hj⟩, fun a ha => ?_⟩, (tU.trans tUV).pin⟩, fun j hj => ?_, upd_same, (dva.mono tUV.stp.gext).append (.cons hy .nil), q2, fun ⟨j, hj⟩ => q3 ⟨j, wipeF_sub hj⟩, eV, fun v hv x => wipeR_none hv⟩
        · refine Sx.aside ((Sx.wipe okV vs).slots ?_ fun i x hx => ?_) q2 fun ⟨j, hj⟩ => q3 ⟨j, wipeF_sub hj⟩
          · rw [wipe_length, esV, esB, ← wipe_length A.σ vs, hsA, wipe_length]
          · have ni : i ∉ vs := fun z => wipeR_none z hx
            rw [← hsA, wipe_ne ni, esV, esB]
        · show upd V.H Dn _ a = _
          rw [upd_ne (ne_of_none ha hD)]
          exact (tU.trans tUV).stp.keep a o ha hf
        · show upd V.H Dn _ a ≠ none
          by_cases c : a = Dn
          · subst c; rw [upd_same]; exact fun z => nomatch z
          · rw [upd_ne c]; exact (tU.trans tUV).stp.trk a ha
        · have j1 : j ∉ vs := fun z => hj (List.mem_append_left _ z)
          have j2 : j ∉ q := fun z => hj (List.mem_append_right _ z)
          have c1 := chU j hj
          have c2 := chUA j j1
          have c3 := chB j fun z => j2 (subL_of eB.1 j z)
          have c4 := chV j fun z => j2 (subL_of s5 j z)
          refine ⟨?_, ?_, fun a ha o ho => ?_⟩
          · show (wipeR V.ρ vs)[j]? = _
            rw [wipeR_ne j1, c4.1, c3.1, c2.1, c1.1]
          · show wipeF V.f vs j = _
            rw [wipeF_ne j1, c4.2.1, c3.2.1, c2.2.1, c1.2.1]
          · show upd V.H Dn _ a = _
            rw [upd_ne (ne_of_none ho hD)]
            refine c4.2.2 a ?_ o (c3.2.2 a ?_ o (c2.2.2 a ?_ o (c1.2.2 a ha o ho)))
            · rw [c3.2.1, c2.2.1, c1.2.1]; exact ha
            · rw [c2.2.1, c1.2.1]; exact ha
            · rw [c1.2.1]; exact ha
    | false =>
      rw [if_neg Bool.false_ne_true]
      obtain ⟨q1, q2, q3⟩ := keepD B okB tUB
      refine ⟨⟨B.pin, B.G, B.H, wipe S.σ vs, wipeR B.ρ vs, wipeF B.f vs⟩, acc, va, rfl, rfl, ?_, ⟨⟨(tU.trans tUB).stp.gext, (tU.trans tUB).stp.keep, (tU.trans tUB).stp.gold, fun a ⟨j, hj⟩ => (tU.trans tUB).stp.fnew a ⟨j, wipeF_sub hj⟩, (tU.trans tUB).stp.trk⟩, (tU.trans tUB).pin⟩, fun j hj => ?_, q1, dva.mono tUB.stp.gext, q2, fun ⟨j, hj⟩ => q3 ⟨j, wipeF_sub hj⟩, eB.2, fun v hv x => wipeR_none hv⟩
      · refine (Sx.wipe okB vs).slots ?_ fun i x hx => ?_
        · rw [wipe_length, esB, ← wipe_length A.σ vs, hsA, wipe_length]
        · have ni : i ∉ vs := fun z => wipeR_none z hx
          rw [← hsA, wipe_ne ni, esB]
      · have j1 : j ∉ vs := fun z => hj (List.mem_append_left _ z)
        have j2 : j ∉ q := fun z => hj (List.mem_append_right _ z)
        have c1 := chU j hj
        have c2 := chUA j j1
        have c3 := chB j fun z => j2 (subL_of eB.1 j z)
        refine ⟨?_, ?_, fun a ha o ho => ?_⟩
        · show (wipeR B.ρ vs)[j]? = _
          rw [wipeR_ne j1, c3.1, c2.1, c1.1]
        · show wipeF B.f vs j = _
          rw [wipeF_ne j1, c3.2.1, c2.2.1, c1.2.1]
        · refine c3.2.2 a ?_ o (c2.2.2 a ?_ o (c1.2.2 a ha o ho))
          · rw [c2.2.1, c1.2.1]; exact ha
          · rw [c1.2.1]; exact ha
  · have hi : i = ds.length := by omega
    refine .inl ⟨h2 (by omega), ?_⟩
    have okE : Sx K U.pin U.G U.H S.σ U.ρ U.f := Sx.slots okU (by rw [hσ, wipe_length]) fun i x hx => by
      rw [hσ]
      exact (wipe_ne fun z => nU i z x hx).symm
    refine k _ _ ⟨U.pin, U.G, U.H, S.σ, U.ρ, U.f⟩ (iend acc U.ρ (by rw [← hi]; exact iU)) rfl okE ⟨(tT.trans tU).stp, (tT.trans tU).pin⟩ ?_ (.ref Dn) ⟨[Dn], .L hva (RA.of_dt dva), by simp, fun a ha => ?_⟩
    · exact fun j hj => (pr.trans chU) j hj
    · have e9 : a = Dn := by simpa using ha
      subst e9
      exact ⟨gU, fU, .inr (tT.stp.free hD)⟩
end
end VL

namespace VL
open PySem PySem.Spec PyProof.Rows L2 RT RZ
section
variable {K : PySem.W.Frag} {W : WX} {G G' H H' H0 : Hp} {σ : L2.St} {ρ : Rho} {f f' : Own} {pin : Nat → Option V} {X : Cx} {S S0 S1 T T1 T2 U : Sta} {E : En} {Z : Ends}
/-! ### sources of items -/
/-- a list or a tuple -/
def iSeq (K : PySem.W.Frag) (tl : TE) : TI := fun σ H R => tl σ H fun x H1 => ∃ a xs, x = .ref a ∧ ((SqL K H1 a xs ∧ R (Itl K a) H1) ∨ (SqT K H1 a xs ∧ R (Itt K a) H1))
theorem pi_seq {tg l : Expr} {tl : TE} (hl : PE X l tl) : PI X tg l (iSeq X.K tl) := by
  refine ⟨fun pins s σ H R I h => ?_⟩
  refine thn (hl.run pins s σ H _ I h) fun v s1 ⟨x, H1, I1, r1, q1⟩ => ?_
  obtain ⟨a, xs, e, q1⟩ := q1
  subst e
  cases r1
  rcases q1 with ⟨hq, q⟩ | ⟨hq, q⟩
  · obtain ⟨its, rv, p, hz⟩ := I1.list hq
    refine wpAny_pyIter_list p.isList ?_
    exact pi_one (tk := s1.toks) I1 _ (turn_list a _) ⟨_, Heap.get?_push_size _ rfl, rfl, rfl⟩ q
  · obtain ⟨its, rv, p, hz⟩ := I1.tuple hq
    refine wpAny_pyIter_tuple (show s1.heap.IsTuple a its.toArray from p) ?_
    exact pi_one (tk := s1.toks) I1 _ (turn_tuple a _) ⟨_, Heap.get?_push_size _ rfl, rfl, rfl⟩ q
theorem DtA.at {vs ds} (h : DtA K G vs ds) (e : Ex G G') {i : Nat} {d : D} (hd : ds[i]? = some d) {x : V} (hx : vs[i]? = some x) : Dt K G' x d := by
  obtain ⟨v, e1, h1⟩ := h.get hd
  rw [e1] at hx; cases hx
  exact h1.mono e
theorem DtA.lt {vs ds} (h : DtA K G vs ds) {i : Nat} (hi : i < ds.length) : ∃ x, vs[i]? = some x := ⟨vs[i]'(by rw [h.len]; exact hi), List.getElem?_eq_getElem _⟩
theorem src_list {a : Addr} {xs : List V} {ds : List D} (h : SqL K G a xs) (hd : DtA K G xs ds) : Src K G (Itl K a) ds := fun G1 H1 e1 e2 i => by
  have h1 := e2.l (e1.l h)
  refine ⟨fun hi => ?_, fun hi => ⟨xs, h1, by rw [hd.len]; exact hi⟩, fun x H2 d hy he => ?_⟩
  · obtain ⟨x, hx⟩ := hd.lt hi
    exact ⟨xs, x, h1, hx⟩
  · obtain ⟨rfl, hy⟩ := hy
    exact ⟨G1, Grow.refl e2, hd.at e1 he (hy xs h1)⟩
theorem src_tup {a : Addr} {xs : List V} {ds : List D} (h : SqT K G a xs) (hd : DtA K G xs ds) : Src K G (Itt K a) ds := fun G1 H1 e1 e2 i => by
  have h1 := e2.t (e1.t h)
  refine ⟨fun hi => ?_, fun hi => ⟨xs, h1, by rw [hd.len]; exact hi⟩, fun x H2 d hy he => ?_⟩
  · obtain ⟨x, hx⟩ := hd.lt hi
    exact ⟨xs, x, h1, hx⟩
  · obtain ⟨rfl, hy⟩ := hy
    exact ⟨G1, Grow.refl e2, hd.at e1 he (hy xs h1)⟩
/-- what is walked must be frozen, or is frozen by it -/
def seqK (x : Kd × D) (q : List D → Prop) : Prop := match x with
  | (.fz, .lst ds) => q ds
  | (.fz, .tup ds) => q ds
  | _ => False
def wIt (we : DE (Kd × D)) : DE (List D) := fun ρ P => wFz we ρ ⟨fun p x ρ' => seqK x fun ds => P.ok p ds ρ', P.ex⟩
theorem seqK_of {x : Kd × D} {q : List D → Prop} (h : seqK x q) : ∃ ds, q ds ∧ (x = (.fz, .lst ds) ∨ x = (.fz, .tup ds)) := by
  unfold seqK at h
  split at h
  · exact ⟨_, h, .inl rfl⟩
  · exact ⟨_, h, .inr rfl⟩
  · exact h.elim
theorem ti_seq {we : DE (Kd × D)} {R : It → Hp → Prop} (h : ti K W (wIt we) σ H R) : iSeq K (te K W we) σ H R := by
  obtain ⟨S, P, rfl, rfl, ok, w, k, ex⟩ := h
  unfold iSeq
  refine te_fz ⟨S, _, rfl, rfl, ok, w, fun p x T e es okT t tc v hv => ?_, ex⟩
  have e : seqK x (fun ds => P.ok p ds T.ρ) := e
  obtain ⟨ds, q, rfl | rfl⟩ := seqK_of e
  · cases hv with
    | lst hl ha => exact ⟨_, _, rfl, .inl ⟨L2.SqL.of (okT.ext _ _ hl), k _ _ T q es okT t tc _ (src_list (.of hl) ha)⟩⟩
  · cases hv with
    | tup hl ha => exact ⟨_, _, rfl, .inr ⟨okT.ext.t hl, k _ _ T q es okT t tc _ (src_tup hl ha)⟩⟩
theorem qi_seq {tg e : Expr} {we : DE (Kd × D)} (he : PE X e (te X.K W we)) : PI X tg e (ti X.K W (wIt we)) := PI.imp (pi_seq he) fun _ _ _ h => ti_seq h
/-! ### range -/
def rangeD (lo : Int) (n : Nat) : List D := (List.range n).map fun i => .int (lo + (i : Nat))
theorem rangeD_len {lo : Int} {n : Nat} : (rangeD lo n).length = n := by simp [rangeD]
theorem rangeD_get {lo : Int} {n i : Nat} {d : D} (h : (rangeD lo n)[i]? = some d) : i < n ∧ d = .int (lo + (i : Nat)) := by
  have hi : i < n := by
    have := (List.getElem?_eq_some_iff.mp h).1
    rwa [rangeD_len] at this
  refine ⟨hi, ?_⟩
  simp [rangeD, hi] at h
  exact h.symm
theorem src_range {lo : Int} {n : Nat} : Src K G (Itr lo n) (rangeD lo n) := fun G1 H1 e1 e2 i => by
  refine ⟨fun hi => by rw [rangeD_len] at hi; exact hi, fun hi => by rw [rangeD_len] at hi; exact hi, fun x H2 d hy he => ?_⟩
  obtain ⟨rfl, rfl⟩ := hy
  obtain ⟨_, rfl⟩ := rangeD_get he
  exact ⟨G1, Grow.refl e2, .int _⟩
def inR (j : Int) : Prop := -(2 ^ 62) ≤ j ∧ j < 2 ^ 62
def rng1 (xs : List (Kd × D)) (q : List D → Prop) : Prop := match xs with
  | [(_, .int j)] => inR j ∧ q (rangeD 0 j.toNat)
  | _ => False
def rng2 (xs : List (Kd × D)) (q : List D → Prop) : Prop := match xs with
  | [(_, .int i), (_, .int j)] => (inR i ∧ inR j) ∧ q (rangeD i (j - i).toNat)
  | _ => False
theorem rng1_of {xs : List (Kd × D)} {q : List D → Prop} (h : rng1 xs q) : ∃ k j, xs = [(k, .int j)] ∧ inR j ∧ q (rangeD 0 j.toNat) := by
  unfold rng1 at h
  split at h
  · exact ⟨_, _, rfl, h⟩
  · exact h.elim
def wRng1 (wa : DE (List (Kd × D))) : DE (List D) := fun ρ P => wa ρ ⟨fun p xs ρ' => rng1 xs fun ds => P.ok p ds ρ', P.ex⟩
def wRng2 (wa : DE (List (Kd × D))) : DE (List D) := fun ρ P => wa ρ ⟨fun p xs ρ' => rng2 xs fun ds => P.ok p ds ρ', P.ex⟩
theorem ti_rng1 {wa : DE (List (Kd × D))} {R : It → Hp → Prop} (h : ti K W (wRng1 wa) σ H R) : iRng1 (ta K W wa) σ H R := by
  obtain ⟨S, P, rfl, rfl, ok, w, k, ex⟩ := h
  refine ⟨S, _, rfl, rfl, ok, w, fun p xs T e es okT t tc vs hv => ?_, ex⟩
  have e : rng1 xs (fun ds => P.ok p ds T.ρ) := e
  obtain ⟨kd, j, rfl, hj, q⟩ := rng1_of e
  cases hv with
  | cons h1 hv =>
    cases hv
    obtain rfl := h1.int_inv okT
    exact ⟨j, rfl, hj.1, hj.2, k _ _ T q es okT t tc _ src_range⟩
section
variable {tg a b : Expr} {wa : DE (List (Kd × D))} {p pos : Pos}
theorem qi_range1 (hm : X.mg "range" = none) (ha : PA X [a] (ta X.K W wa)) (hg : Gl X "range" := by rfl) (hs : starEach [a] X.env = [(false, eval a X.env)] := by rfl) : PI X tg (.Call (.Name "range" p) [a] [] pos) (ti X.K W (wRng1 wa)) :=
  PI.imp (pi_range1 hg hm ha hs) fun _ _ _ h => ti_rng1 h
end
/-! ### enumerate, zip, reversed -/
def enumD (ds : List D) : List D := (List.range ds.length).map fun i => .tup [.int (i : Nat), ds.getD i .non]
def zipD (xs ys : List D) : List D := (xs.zip ys).map fun z => .tup [z.1, z.2]
theorem zipD_len {xs ys : List D} : (zipD xs ys).length = min xs.length ys.length := by simp [zipD]
theorem zipD_get {xs ys : List D} {i : Nat} {d : D} (h : (zipD xs ys)[i]? = some d) : ∃ x y, xs[i]? = some x ∧ ys[i]? = some y ∧ d = .tup [x, y] := by
  simp only [zipD, List.getElem?_map, Option.map_eq_some_iff] at h
  obtain ⟨⟨x, y⟩, hz, rfl⟩ := h
  obtain ⟨h1, h2⟩ := List.getElem?_zip_eq_some.mp hz
  exact ⟨x, y, h1, h2, rfl⟩
theorem DtA.pair {p : Addr} {x y : V} {dx dy : D} (e : G p = none) (hx : Dt K G x dx) (hy : Dt K G y dy) : Dt K (upd G p (.tup [x, y])) (.ref p) (.tup [dx, dy]) := Dt.tup_new (.cons hx (.cons hy .nil)) e
theorem src_zip {a b : Addr} {xs ys : List V} {ds es : List D} (h : SqL K G a xs) (hd : DtA K G xs ds) (h' : SqL K G b ys) (hd' : DtA K G ys es) : Src K G (Itz K a b) (zipD ds es) := fun G1 H1 e1 e2 i => by
  have h1 := e2.l (e1.l h)
  have h2 := e2.l (e1.l h')
  rw [zipD_len]
  refine ⟨fun hi => ?_, fun hi => ⟨xs, ys, h1, h2, by rw [hd.len, hd'.len]; omega⟩, fun x H2 d hy he => ?_⟩
  · obtain ⟨x, hx⟩ := hd.lt (i := i) (by omega)
    obtain ⟨y, hy⟩ := hd'.lt (i := i) (by omega)
    exact ⟨xs, ys, x, y, h1, h2, hx, hy⟩
  · obtain ⟨T, v, u, rfl, hT, rfl, hv, hu⟩ := hy
    obtain ⟨d1, d2, he1, he2, rfl⟩ := zipD_get he
    exact ⟨_, Grow.new e2 hT, DtA.pair (e2.free hT) (hd.at e1 he1 (hv xs h1)) (hd'.at e1 he2 (hu ys h2))⟩
theorem src_zipT {a b : Addr} {xs ys : List V} {ds es : List D} (h : SqT K G a xs) (hd : DtA K G xs ds) (h' : SqT K G b ys) (hd' : DtA K G ys es) : Src K G (ItzT K a b) (zipD ds es) := fun G1 H1 e1 e2 i => by
  have h1 := e2.t (e1.t h)
  have h2 := e2.t (e1.t h')
  rw [zipD_len]
  refine ⟨fun hi => ?_, fun hi => ⟨xs, ys, h1, h2, by rw [hd.len, hd'.len]; omega⟩, fun x H2 d hy he => ?_⟩
  · obtain ⟨x, hx⟩ := hd.lt (i := i) (by omega)
    obtain ⟨y, hy⟩ := hd'.lt (i := i) (by omega)
    exact ⟨xs, ys, x, y, h1, h2, hx, hy⟩
  · obtain ⟨T, v, u, rfl, hT, rfl, hv, hu⟩ := hy
    obtain ⟨d1, d2, he1, he2, rfl⟩ := zipD_get he
    exact ⟨_, Grow.new e2 hT, DtA.pair (e2.free hT) (hd.at e1 he1 (hv xs h1)) (hd'.at e1 he2 (hu ys h2))⟩
def wRev (we : DE (Kd × D)) : DE (List D) := fun ρ P => wFz we ρ ⟨fun p x ρ' => seqK x fun ds => P.ok p ds.reverse ρ', P.ex⟩
def isL1 (xs : List (Kd × D)) (q : List D → Prop) : Prop := match xs with
  | [(.fz, .lst ds)] => q ds
  | _ => False
def isL2 (xs : List (Kd × D)) (q : List D → List D → Prop) : Prop := match xs with
  | [(.fz, .lst ds), (.fz, .lst es)] => q ds es
  | [(.fz, .tup ds), (.fz, .tup es)] => q ds es
  | _ => False
theorem isL2_of {xs : List (Kd × D)} {q : List D → List D → Prop} (h : isL2 xs q) : ∃ ds es, q ds es ∧ (xs = [(.fz, .lst ds), (.fz, .lst es)] ∨ xs = [(.fz, .tup ds), (.fz, .tup es)]) := by
  unfold isL2 at h
  split at h
  · exact ⟨_, _, h, .inl rfl⟩
  · exact ⟨_, _, h, .inr rfl⟩
  · exact h.elim
def wEnum (wa : DE (List (Kd × D))) : DE (List D) := fun ρ P => wa ρ ⟨fun p xs ρ' => isL1 xs fun ds => P.ok p (enumD ds) ρ', P.ex⟩
def wZip (wa : DE (List (Kd × D))) : DE (List D) := fun ρ P => wa ρ ⟨fun p xs ρ' => isL2 xs fun ds es => P.ok p (zipD ds es) ρ', P.ex⟩
theorem ti_zip {wa : DE (List (Kd × D))} {R : It → Hp → Prop} (h : ti K W (wZip wa) σ H R) : iZipA K (ta K W wa) σ H R := by
  obtain ⟨S, P, rfl, rfl, ok, w, k, ex⟩ := h
  refine ⟨S, _, rfl, rfl, ok, w, fun p xs T e es okT t tc vs hv => ?_, ex⟩
  have e : isL2 xs (fun ds es => P.ok p (zipD ds es) T.ρ) := e
  obtain ⟨ds, fs, q, rfl | rfl⟩ := isL2_of e
  · cases hv with
    | cons h1 hv =>
      cases hv with
      | cons h2 hv =>
        cases hv
        cases h1 with
        | lst hl ha =>
          cases h2 with
          | lst hl' ha' => exact ⟨_, _, _, _, rfl, .inl ⟨L2.SqL.of (okT.ext _ _ hl), L2.SqL.of (okT.ext _ _ hl'), k _ _ T q es okT t tc _ (src_zip (.of hl) ha (.of hl') ha')⟩⟩
  · cases hv with
    | cons h1 hv =>
      cases hv with
      | cons h2 hv =>
        cases hv
        cases h1 with
        | tup hl ha =>
          cases h2 with
          | tup hl' ha' => exact ⟨_, _, _, _, rfl, .inr ⟨okT.ext.t hl, okT.ext.t hl', k _ _ T q es okT t tc _ (src_zipT hl ha hl' ha')⟩⟩
section
variable {tg a b : Expr} {we : DE (Kd × D)} {wa : DE (List (Kd × D))} {p pos tpos : Pos} {elts : List Expr} {kk : Nat}
theorem qi_zip (hm : X.mg "zip" = none) (ha : PA X [a, b] (ta X.K W wa)) (hg : Gl X "zip" := by rfl) (hs : starEach [a, b] X.env = (false, eval a X.env) :: starEach [b] X.env := by rfl) (hpl : (backTo pos (starEach [b] X.env)).any (·.1) = false := by rfl) :
    PI X (.Tuple elts kk tpos) (.Call (.Name "zip" p) [a, b] [] pos) (ti X.K W (wZip wa)) := PI.imp (pi_zipA hg hm ha hs hpl) fun _ _ _ h => ti_zip h
end
/-! ### comprehensions -/
def wYes : DE Bool := fun ρ P => P.ok [] true ρ
def wPtOne (t : DE Bool) : DE Bool := t
theorem tt_yes {Q : Bool → Hp → Prop} (h : tt K W wYes σ H Q) : tYes σ H Q := by
  obtain ⟨S, P, rfl, rfl, ok, w, k, _⟩ := h
  exact k _ _ S w rfl ok (Sta.refl S) (Tch.refl S _) _ rfl
theorem PTs.imp {e : List Expr} {t t' : TT} (h : PTs X e t) (k : ∀ σ H Q, t' σ H Q → t σ H Q) : PTs X e t' := ⟨fun pins s σ H Q I q => h.run pins s σ H Q I (k σ H Q q)⟩
theorem q_tsnil : PTs X [] (tt X.K W wYes) := PTs.imp pts_nil fun _ _ _ h => tt_yes h
theorem q_tsone {c : Expr} {w : DE Bool} (h : PT X c (tt X.K W w)) : PTs X [c] (tt X.K W w) := pts_one h
section
variable {elt tg iter : Expr} {ifs : List Expr} {scope : Scope} {own : List (Str × Nat)} {pos : Pos} {wi : DE (List D)} {g : DG} {t : DE Bool} {we : DE (Kd × D)}
theorem q_lc (q : List Nat) (hc : X.calm = true) (hN : X.N.Nodup) (hi : PI X tg iter (ti X.K W wi)) (ok : BlkOk X.N X.env.scope scope own)
    (hg : ∀ (s : Shared) (H : Hp) (C : Addr) (cl : List (Str × Addr)) (fp : List Addr), PG (X.blk s H scope (compEnvC scope cl C X.env) fp) tg (VL.tg X.K (own.map (·.2)) g)) (ht : ∀ (s : Shared) (H : Hp) (C : Addr) (cl : List (Str × Addr)) (fp : List Addr), PTs (X.blk s H scope (compEnvC scope cl C X.env) fp) ifs (tt X.K (fun _ _ _ _ => False) t))
    (he : ∀ (s : Shared) (H : Hp) (C : Addr) (cl : List (Str × Addr)) (fp : List Addr), PE (X.blk s H scope (compEnvC scope cl C X.env) fp) elt (te X.K (fun _ _ _ _ => False) we)) (hs : ∀ x, foldedSetIterable iter X.env x = pure x := by intro _; rfl) :
    PE X (.ListComp elt [⟨tg, iter, ifs, 0⟩] scope pos) (te X.K W (wLc wi g t we (own.map (·.2)) q)) := PE.imp (pe_lc hc hN hi ok hg ht he hs) fun _ _ _ h => te_lc h
end
end
end VL

namespace VL
open PySem PySem.Spec PyProof.Rows L2
section
variable {K : PySem.W.Frag} {W : WX} {G G' H H' H0 : Hp} {σ : L2.St} {ρ : Rho} {f f' : Own} {pin : Nat → Option V} {X : Cx} {S S0 S1 T T1 T2 U : Sta} {E : En} {Z : Ends}
/-! ### a thing in a slot is changed -/
theorem mut_state {i : Nat} {p : List Nat} {m : Md} {a : Addr} {o' : HO} {d d' : D} {fq fq' : List Addr} (ok : T.ok K) (l : Lent K T i p m (.ref a) d fq) (ha : a ∈ fq) (r : R K T.G (upd T.H a o') m (.ref a) d' fq') (n : fq'.Nodup) (s : ∀ b ∈ fq', b ∈ fq) :
    ∃ f2 : Own, Sx K T.pin T.G (upd T.H a o') T.σ (setAt T.ρ i p d') f2 ∧ T.to ⟨T.pin, T.G, upd T.H a o', T.σ, setAt T.ρ i p d', f2⟩ ∧ Tch [i] T ⟨T.pin, T.G, upd T.H a o', T.σ, setAt T.ρ i p d', f2⟩ := by
  obtain ⟨m0, d0, v0, h1, h2, hb⟩ := l.back
  have hai : a ∈ T.f i := l.sub a ha
  obtain ⟨fr, r2, n2, s2⟩ := hb T.G (upd T.H a o') d' fq' (Ex.refl _) (fun b _ hn => upd_ne fun z : b = a => hn (by rw [z]; exact ha)) r n (fun b hb => .inl (s b hb))
  have frs : ∀ b ∈ fr, b ∈ T.f i := fun b hb => by
    rcases s2 b hb with q | q
    · exact q.1
    · exact l.sub b (s b q)
  have ga : T.G a = none := ok.out i a hai
  have oth : ∀ j, j ≠ i → ∀ b ∈ T.f j, upd T.H a o' b = T.H b := fun j c b hb => upd_ne fun z : b = a => c (ok.dj j i b hb (by rw [z]; exact hai))
  refine ⟨T.f.set i fr, ?_, ⟨⟨Ex.refl _, fun b o ho hn => ?_, fun _ _ _ => rfl, fun b ⟨j, hj⟩ => .inl ?_, fun b hb => ?_⟩, rfl⟩, fun j hj => ?_⟩
  · exact {
      ext := fun b u e => by rw [upd_ne (ne_of_none e ga)]; exact ok.ext b u e
      len := by rw [setAt_len]; exact ok.len
      slot := fun j m' d1 e => by
        by_cases c : j = i
        · subst c
          rw [setAt_eq h1] at e; cases e
          exact ⟨v0, h2, by rw [Own.set_same]; exact r2⟩
        · rw [setAt_ne c] at e
          obtain ⟨u, g1, g2⟩ := ok.slot j m' d1 e
          exact ⟨u, g1, by rw [Own.set_ne c]; exact g2.keep (Ex.refl _) fun b hb o ho => by rw [oth j c b hb]; exact ho⟩
      emp := fun j e => by
        by_cases c : j = i
        · subst c; exact absurd (setAt_eq h1) (e _ _)
        · rw [Own.set_ne c]; exact ok.emp j fun m' d1 q => e m' d1 (by rw [setAt_ne c]; exact q)
      nd := fun j => by
        by_cases c : j = i
        · subst c; rw [Own.set_same]; exact n2
        · rw [Own.set_ne c]; exact ok.nd j
      dj := fun j j' b h h' => by
        have q : ∀ k, b ∈ T.f.set i fr k → b ∈ T.f k := fun k hk => by
          by_cases c : k = i
          · subst c; rw [Own.set_same] at hk; exact frs b hk
          · rw [Own.set_ne c] at hk; exact hk
        exact ok.dj _ _ b (q j h) (q j' h')
      out := fun j b h => by
        by_cases c : j = i
        · subst c; rw [Own.set_same] at h; exact ok.out _ b (frs b h)
        · rw [Own.set_ne c] at h; exact ok.out j b h
      pins := fun j m' d1 e => by
        by_cases c : j = i
        · subst c
          rw [setAt_eq h1] at e; cases e
          exact ok.pins j _ _ h1
        · rw [setAt_ne c] at e; exact ok.pins j m' d1 e }
  · show upd T.H a o' b = _
    rw [upd_ne fun z : b = a => hn ⟨i, by rw [z]; exact hai⟩]; exact ho
  · by_cases c : j = i
    · subst c
      have hj' : b ∈ T.f.set j fr j := hj
      rw [Own.set_same] at hj'; exact ⟨j, frs b hj'⟩
    · have hj' : b ∈ T.f.set i fr j := hj
      rw [Own.set_ne c] at hj'; exact ⟨j, hj'⟩
  · show upd T.H a o' b ≠ none
    by_cases c : b = a
    · subst c; rw [upd_same]; exact fun z => nomatch z
    · rw [upd_ne c]; exact hb
  · have c : j ≠ i := fun z => hj (by rw [z]; exact List.mem_cons_self)
    exact ⟨setAt_ne c, Own.set_ne c, fun b hb o ho => by
      show upd T.H a o' b = _
      rw [oth j c b hb]; exact ho⟩
/-! ### fields -/
theorem DtF.names : ∀ {fs : List (Str × V)} {ds : List (Str × D)}, DtF K G fs ds → fs.map (·.1) = ds.map (·.1)
  | _, _, .nil => rfl
  | _, _, .cons h t => by simp [DtF.names t]
theorem RF.names : ∀ {ms : List Md} {fs : List (Str × V)} {ds : List (Str × D)} {fp : List Addr}, RF K G H ms fs ds fp → fs.map (·.1) = ds.map (·.1)
  | _, _, _, _, .nil => rfl
  | _, _, _, _, .cons h t => by simp [RF.names t]
theorem lookup_at {β : Type} : ∀ {fs : List (Str × β)} {j : Nat} {k : Str} {v : β}, (fs.map (·.1)).Nodup → fs[j]? = some (k, v) → fs.lookup k = some v
  | [], _, _, _, _, h => by simp at h
  | (k', v') :: fs, 0, k, v, _, h => by
    simp at h
    obtain ⟨rfl, rfl⟩ := h
    simp [List.lookup_cons]
  | (k', v') :: fs, j + 1, k, v, n, h => by
    rw [List.map_cons] at n
    have n' := List.nodup_cons.mp n
    have h' : fs[j]? = some (k, v) := by simpa using h
    have c : (k == k') = false := by
      rw [beq_eq_false_iff_ne]
      rintro rfl
      exact n'.1 (List.mem_map.mpr ⟨(k, v), List.mem_of_getElem? h', rfl⟩)
    rw [List.lookup_cons, c]
    exact lookup_at n'.2 h'
theorem lookup_out {β : Type} : ∀ {fs : List (Str × β)} {k : Str}, k ∉ fs.map (·.1) → fs.lookup k = none
  | [], _, _ => rfl
  | (k', v') :: fs, k, h => by
    have c : (k == k') = false := by
      rw [beq_eq_false_iff_ne]
      rintro rfl
      exact h (by simp)
    rw [List.lookup_cons, c]
    exact lookup_out fun z => h (by simp only [List.map_cons, List.mem_cons]; exact .inr z)
theorem DtF.at : ∀ {fs : List (Str × V)} {ds : List (Str × D)} {j : Nat} {k : Str} {d : D}, DtF K G fs ds → ds[j]? = some (k, d) → ∃ v, fs[j]? = some (k, v) ∧ Dt K G v d
  | _, _, _, _, _, .nil, h => by simp at h
  | _, _, 0, _, _, .cons h t, e => by
    simp at e
    obtain ⟨rfl, rfl⟩ := e
    exact ⟨_, rfl, h⟩
  | _, _, j + 1, _, _, .cons h t, e => by
    obtain ⟨v, e1, h1⟩ := DtF.at t (j := j) (by simpa using e)
    exact ⟨v, by simpa using e1, h1⟩
theorem RF.at : ∀ {ms : List Md} {fs : List (Str × V)} {ds : List (Str × D)} {fp : List Addr} {j : Nat} {k : Str} {d : D}, RF K G H ms fs ds fp → ds[j]? = some (k, d) → ∃ v, fs[j]? = some (k, v)
  | _, _, _, _, _, _, _, .nil, h => by simp at h
  | _, _, _, _, 0, _, _, .cons h t, e => by
    simp at e
    obtain ⟨rfl, rfl⟩ := e
    exact ⟨_, rfl⟩
  | _, _, _, _, j + 1, _, _, .cons h t, e => by
    obtain ⟨v, e1⟩ := RF.at t (j := j) (by simpa using e)
    exact ⟨v, by simpa using e1⟩
/-- the field f, the j-th, of an instance of C -/
def fldK (C : Addr) (f : Str) (j : Nat) (x : Kd × D) (q : Kd × D → Prop) : Prop := match x with
  | (.fz, .obj C' fs) => C' = C ∧ match fs[j]? with
    | some (k, d) => k = f ∧ q (.fz, d)
    | none => False
  | (.bor i p (.O ms), .obj C' fs) => C' = C ∧ match fs[j]?, ms[j]? with
    | some (k, d), some m => k = f ∧ q (kAt i (p ++ [j]) m, d)
    | _, _ => False
  | _ => False
theorem fldK_of {C : Addr} {f : Str} {j : Nat} {x : Kd × D} {q : Kd × D → Prop} (h : fldK C f j x q) :
    ∃ fs d, fs[j]? = some (f, d) ∧ ((x = (.fz, .obj C fs) ∧ q (.fz, d)) ∨ ∃ i p ms m, x = (.bor i p (.O ms), .obj C fs) ∧ ms[j]? = some m ∧ q (kAt i (p ++ [j]) m, d)) := by
  unfold fldK at h
  split at h
  · obtain ⟨rfl, h⟩ := h
    split at h
    · rename_i e
      obtain ⟨rfl, h⟩ := h
      exact ⟨_, _, e, .inl ⟨rfl, h⟩⟩
    · exact h.elim
  · obtain ⟨rfl, h⟩ := h
    split at h
    · rename_i e e'
      obtain ⟨rfl, h⟩ := h
      exact ⟨_, _, e, .inr ⟨_, _, _, _, rfl, e', h⟩⟩
    · exact h.elim
  · exact h.elim
def wFld (C : Addr) (f : Str) (j : Nat) (we : DE (Kd × D)) : DE (Kd × D) := fun ρ P => we ρ ⟨fun p x ρ' => fldK C f j x fun z => P.ok p z ρ', P.ex⟩
theorem Rch.snoc_ins : ∀ {H : Hp} {v0 v x : V} {p : List Nat} {a C dx : Addr} {fs : List (Str × V)} {j : Nat} {k : Str}, Rch H v0 p v → v = .ref a → H a = some (.ins C dx fs) → fs[j]? = some (k, x) → Rch H v0 (p ++ [j]) x
  | _, _, _, _, _, _, _, _, _, _, _, .here, e, h, i => by subst e; exact .ins h i .here
  | _, _, _, _, _, _, _, _, _, _, _, .lst h1 i1 t, e, h, i => .lst h1 i1 (Rch.snoc_ins t e h i)
  | _, _, _, _, _, _, _, _, _, _, _, .ins h1 i1 t, e, h, i => .ins h1 i1 (Rch.snoc_ins t e h i)
  | _, _, _, _, _, _, _, _, _, _, _, .tup h1 i1 t, e, h, i => .tup h1 i1 (Rch.snoc_ins t e h i)
  | _, _, _, _, _, _, _, _, _, _, _, .dK h1 i1 t, e, h, i => .dK h1 i1 (Rch.snoc_ins t e h i)
theorem mAt_snoc : ∀ {p : List Nat} {m0 m m' : Md} {j : Nat}, mAt m0 p = some m → mKid m j = some m' → mAt m0 (p ++ [j]) = some m'
  | [], _, _, _, _, e, k => by
    simp [mAt] at e
    subst e
    simp [mAt, k]
  | i :: p, m0, _, _, _, e, k => by
    simp only [mAt] at e
    split at e
    · rename_i m1 e1
      show (match mKid m0 i with | some m' => mAt m' (p ++ _) | none => none) = _
      rw [e1]
      exact mAt_snoc e k
    · cases e
theorem dAt_snoc : ∀ {p : List Nat} {m0 m m' : D} {j : Nat}, dAt m0 p = some m → dKid m j = some m' → dAt m0 (p ++ [j]) = some m'
  | [], _, _, _, _, e, k => by
    simp [dAt] at e
    subst e
    simp [dAt, k]
  | i :: p, m0, _, _, _, e, k => by
    simp only [dAt] at e
    split at e
    · rename_i m1 e1
      show (match dKid m0 i with | some m' => dAt m' (p ++ _) | none => none) = _
      rw [e1]
      exact dAt_snoc e k
    · cases e
/-- the instance of a value of the kind bor i p (O ms) -/
theorem Has.ins (ok : T.ok K) {i : Nat} {p : List Nat} {ms : List Md} {v : V} {C : Addr} {fs : List (Str × D)} (h : Has K S0 T (.bor i p (.O ms)) v (.obj C fs)) : ∃ a dx vs fp, v = .ref a ∧ T.H a = some (.ins C dx vs) ∧ (fs.map (·.1)).Nodup ∧ RF K T.G T.H ms vs fs fp := by
  obtain ⟨fq, r, _⟩ := h.bor_R ok
  cases r with
  | O h n t => exact ⟨_, _, _, _, rfl, h, n, t⟩
theorem te_fld {C : Addr} {f : Str} {j : Nat} {we : DE (Kd × D)} {Q : VK} (c : Cls K C) (na : NoAttr K C f) (h : te K W (wFld C f j we) σ H Q) : tFld K (te K W we) f σ H Q := by
  obtain ⟨S, P, rfl, rfl, ok, w, k, ex⟩ := h
  refine ⟨S, _, rfl, rfl, ok, w, fun p x T e es okT t tc v hv => ?_, ex⟩
  have e : fldK C f j x (fun z => P.ok p z T.ρ) := e
  obtain ⟨fs, d, ej, ⟨rfl, q⟩ | ⟨i, pp, ms, m, rfl, em, q⟩⟩ := fldK_of e
  · cases hv with
    | obj hG n hf =>
      obtain ⟨y, e1, h1⟩ := hf.at ej
      exact ⟨_, _, _, _, y, rfl, okT.ext _ _ hG, c, na, lookup_at (by rw [hf.names]; exact n) e1, k _ _ T q es okT t tc y h1⟩
  · obtain ⟨a, dx, vs, fp, rfl, ha, n, hf⟩ := hv.ins okT
    obtain ⟨y, e1⟩ := hf.at ej
    obtain ⟨m0, d0, v0, h1, h2, h3, h4, h5⟩ := hv
    refine ⟨_, _, _, _, y, rfl, ha, c, na, lookup_at (by rw [hf.names]; exact n) e1, k _ _ T q es okT t tc y ?_⟩
    exact Has.of_at okT h1 h2 (Rch.snoc_ins h3 rfl ha e1) (mAt_snoc h4 em) (dAt_snoc h5 (by simp only [dKid, ej]))
theorem q_fld (C : Addr) (j : Nat) {e : Expr} {f : Str} {pos : Pos} {we : DE (Kd × D)} (c : Cls X.K C) (na : NoAttr X.K C f) (he : PE X e (te X.K W we)) (hb : attributeBase e f X.env (eval e X.env) = eval e X.env := by rfl) : PE X (.Attribute e f pos) (te X.K W (wFld C f j we)) :=
  PE.imp (pe_fld he hb) fun _ _ _ h => te_fld c na h
/-! ### a field is stored: the instance stands in a slot -/
def Md.re : Md → Md → Md
  | .P m, x => .P (m.re x)
  | _, x => x
theorem R.re : ∀ {m : Md} {v : V} {d : D} {fp : List Addr} {x : Md}, R K G H x v d fp → R K G H (m.re x) v d fp
  | .F, _, _, _, _, h => h
  | .L _, _, _, _, _, h => h
  | .K, _, _, _, _, h => h
  | .N, _, _, _, _, h => h
  | .M _, _, _, _, _, h => h
  | .O _, _, _, _, _, h => h
  | .T _, _, _, _, _, h => h
  | .A _, _, _, _, _, h => h
  | .P m, _, _, _, _, h => .P (R.re (m := m) h)
theorem Md.re_P {m x m1 : Md} (h : m.re x = .P m1) (hx : notP x = true) : ∃ m2, m = .P m2 := by
  cases m with
  | P m => exact ⟨m, rfl⟩
  | _ => simp [Md.re] at h; subst h; cases hx
/-- a slot keeps its thing, whose object is another now -/
theorem remode_state {i : Nat} {m0 m1 : Md} {a : Addr} {o' : HO} {d0 d1 : D} {fr : List Addr} (ok : T.ok K) (h1 : T.ρ[i]? = some (some (m0, d0))) (h2 : T.σ[i]? = some (some (.ref a))) (hai : a ∈ T.f i) (hm : notP m1 = true) (r : R K T.G (upd T.H a o') m1 (.ref a) d1 fr) (n : fr.Nodup) (s : ∀ b ∈ fr, b ∈ T.f i ∨ (T.G b = none ∧ ¬ Ow T.f b ∧ Nw S b)) (t : S.to T) :
    Sx K T.pin T.G (upd T.H a o') T.σ (T.ρ.set i (some (m0.re m1, d1))) (T.f.set i fr) ∧ S.to ⟨T.pin, T.G, upd T.H a o', T.σ, T.ρ.set i (some (m0.re m1, d1)), T.f.set i fr⟩ := by
  have ga : T.G a = none := ok.out i a hai
  have hlt := (List.getElem?_eq_some_iff.mp h1).1
  have oth : ∀ j, j ≠ i → ∀ b ∈ T.f j, upd T.H a o' b = T.H b := fun j c b hb => upd_ne fun z : b = a => c (ok.dj j i b hb (by rw [z]; exact hai))
  refine ⟨?_, ⟨⟨t.stp.gext, fun b o ho hn => ?_, t.stp.gold, fun b ⟨j, hj⟩ => ?_, fun b hb => ?_⟩, t.pin⟩⟩
  · exact {
      ext := fun b u e => by rw [upd_ne (ne_of_none e ga)]; exact ok.ext b u e
      len := by simp [ok.len]
      slot := fun j m' d1 e => by
        by_cases c : j = i
        · subst c
          rw [List.getElem?_set_self hlt] at e; cases e
          exact ⟨_, h2, by rw [Own.set_same]; exact r.re⟩
        · rw [List.getElem?_set_ne (Ne.symm c)] at e
          obtain ⟨u, g1, g2⟩ := ok.slot j m' d1 e
          exact ⟨u, g1, by rw [Own.set_ne c]; exact g2.keep (Ex.refl _) fun b hb o ho => by rw [oth j c b hb]; exact ho⟩
      emp := fun j e => by
        by_cases c : j = i
        · subst c; exact absurd (List.getElem?_set_self hlt) (e _ _)
        · rw [Own.set_ne c]; exact ok.emp j fun m' d1 q => e m' d1 (by rw [List.getElem?_set_ne (Ne.symm c)]; exact q)
      nd := fun j => by
        by_cases c : j = i
        · subst c; rw [Own.set_same]; exact n
        · rw [Own.set_ne c]; exact ok.nd j
      dj := fun j j' b h h' => by
        by_cases c : j = i
        · subst c
          by_cases c' : j' = j
          · exact c'.symm
          · rw [Own.set_same] at h
            rw [Own.set_ne c'] at h'
            rcases s b h with q | q
            · exact ok.dj _ _ b q h'
            · exact absurd ⟨j', h'⟩ q.2.1
        · rw [Own.set_ne c] at h
          by_cases c' : j' = i
          · subst c'
            rw [Own.set_same] at h'
            rcases s b h' with q | q
            · exact ok.dj _ _ b h q
            · exact absurd ⟨j, h⟩ q.2.1
          · rw [Own.set_ne c'] at h'
            exact ok.dj _ _ b h h'
      out := fun j b h => by
        by_cases c : j = i
        · subst c; rw [Own.set_same] at h
          rcases s b h with q | q
          · exact ok.out _ b q
          · exact q.1
        · rw [Own.set_ne c] at h; exact ok.out j b h
      pins := fun j m' d1 e => by
        by_cases c : j = i
        · subst c
          rw [List.getElem?_set_self hlt] at e
          have e9 := congrArg (fun z => z.map (fun z => z.map Prod.fst)) e
          simp at e9
          obtain ⟨m2, rfl⟩ := Md.re_P e9 hm
          obtain ⟨u, q1, q2⟩ := ok.pins j _ _ h1
          exact ⟨u, q1, q2⟩
        · rw [List.getElem?_set_ne (Ne.symm c)] at e; exact ok.pins j m' d1 e }
  · show upd T.H a o' b = _
    by_cases c : b = a
    · subst c
      rcases t.stp.fnew b ⟨i, hai⟩ with z | z
      · exact absurd z hn
      · rw [ho] at z; cases z
    · rw [upd_ne c]; exact t.stp.keep b o ho hn
  · by_cases c : j = i
    · subst c
      have hj' : b ∈ T.f.set j fr j := hj
      rw [Own.set_same] at hj'
      rcases s b hj' with q | q
      · exact t.stp.fnew b ⟨j, q⟩
      · exact q.2.2
    · have hj' : b ∈ T.f.set i fr j := hj
      rw [Own.set_ne c] at hj'; exact t.stp.fnew b ⟨j, hj'⟩
  · show upd T.H a o' b ≠ none
    by_cases c : b = a
    · subst c; rw [upd_same]; exact fun z => nomatch z
    · rw [upd_ne c]; exact t.stp.trk b hb
theorem RF.put : ∀ {ms : List Md} {fs : List (Str × V)} {ds : List (Str × D)} {fp : List Addr} {j : Nat} {k : Str} {d0 d : D} {m : Md} {y : V} {fq : List Addr}, RF K G H ms fs ds fp → (ds.map (·.1)).Nodup → fp.Nodup → ds[j]? = some (k, d0) → R K G H m y d fq → fq.Nodup → (∀ a ∈ fq, a ∉ fp) →
    ∃ fr, RF K G H (ms.set j m) (putF k y fs) (ds.set j (k, d)) fr ∧ fr.Nodup ∧ ∀ a ∈ fr, a ∈ fp ∨ a ∈ fq
  | _, _, _, _, _, _, _, _, _, _, _, .nil, _, _, h, _, _, _ => by simp at h
  | _, _, _, _, 0, k, _, d, m, y, fq, .cons (m := m0) (ms := ms) (fp := fp0) (fq := fq0) r t, _, n, h, r', n', dj => by
    simp at h
    obtain ⟨rfl, rfl⟩ := h
    have nn := List.nodup_append.mp n
    refine ⟨fq ++ fq0, ?_, List.nodup_append.mpr ⟨n', nn.2.1, fun a ha b hb c => ?_⟩, fun a ha => ?_⟩
    · simp only [putF, if_true, List.set_cons_zero]
      exact .cons r' t
    · subst c; exact dj a ha (List.mem_append_right _ hb)
    · rcases List.mem_append.mp ha with q | q
      · exact .inr q
      · exact .inl (List.mem_append_right _ q)
  | _, _, _, _, j + 1, k, d1, d, m, y, fq, .cons (m := m0) (ms := ms) (k := k0) (fp := fp0) (fq := fq0) r t, n0, n, h, r', n', dj => by
    have nn := List.nodup_append.mp n
    rw [List.map_cons] at n0
    have n1 := List.nodup_cons.mp n0
    rename_i v0 dv0 vs ds
    have h' : ds[j]? = some (k, d1) := by simpa using h
    obtain ⟨fr, r2, n2, s2⟩ := RF.put t n1.2 nn.2.1 h' r' n' fun a ha c => dj a ha (List.mem_append_right _ c)
    have c : ¬ k0 = k := by
      rintro rfl
      exact n1.1 (List.mem_map.mpr ⟨(k0, d1), List.mem_of_getElem? h', rfl⟩)
    refine ⟨fp0 ++ fr, ?_, List.nodup_append.mpr ⟨nn.1, n2, fun a ha b hb z => ?_⟩, fun a ha => ?_⟩
    · simp only [putF, if_neg c, List.set_cons_succ]
      exact .cons r r2
    · subst z
      rcases s2 a hb with q | q
      · exact nn.2.2 a ha a q rfl
      · exact dj a q (List.mem_append_left _ ha)
    · rcases List.mem_append.mp ha with q | q
      · exact .inl (List.mem_append_left _ q)
      · rcases s2 a q with q | q
        · exact .inl (List.mem_append_right _ q)
        · exact .inr q
theorem RF.app : ∀ {ms : List Md} {fs : List (Str × V)} {ds : List (Str × D)} {fp : List Addr} {k : Str} {d : D} {m : Md} {y : V} {fq : List Addr}, RF K G H ms fs ds fp → k ∉ ds.map (·.1) → fp.Nodup → R K G H m y d fq → fq.Nodup → (∀ a ∈ fq, a ∉ fp) →
    ∃ fr, RF K G H (ms ++ [m]) (putF k y fs) (ds ++ [(k, d)]) fr ∧ fr.Nodup ∧ ∀ a ∈ fr, a ∈ fp ∨ a ∈ fq
  | _, _, _, _, k, d, m, y, fq, .nil, _, _, r', n', _ => ⟨fq, by
      have := RF.cons (k := k) r' (RF.nil (K := K) (G := G) (H := H))
      rw [List.append_nil] at this
      exact this, n', fun a ha => .inr ha⟩
  | _, _, _, _, k, d, m, y, fq, .cons (m := m0) (ms := ms) (k := k0) (fp := fp0) (fq := fq0) r t, h0, n, r', n', dj => by
    have nn := List.nodup_append.mp n
    obtain ⟨fr, r2, n2, s2⟩ := RF.app (k := k) t (fun z => h0 (by simp only [List.map_cons, List.mem_cons]; exact .inr z)) nn.2.1 r' n' fun a ha c => dj a ha (List.mem_append_right _ c)
    have c : ¬ k0 = k := by
      rintro rfl
      exact h0 (by simp)
    refine ⟨fp0 ++ fr, ?_, List.nodup_append.mpr ⟨nn.1, n2, fun a ha b hb z => ?_⟩, fun a ha => ?_⟩
    · simp only [putF, if_neg c, List.cons_append]
      exact .cons r r2
    · subst z
      rcases s2 a hb with q | q
      · exact nn.2.2 a ha a q rfl
      · exact dj a q (List.mem_append_left _ ha)
    · rcases List.mem_append.mp ha with q | q
      · exact .inl (List.mem_append_left _ q)
      · rcases s2 a q with q | q
        · exact .inl (List.mem_append_right _ q)
        · exact .inr q
/-- the value's kind as a mode -/
def Kd.md : Kd → Option Md
  | .fz => some .F
  | .new m => some m
  | .bor _ _ _ => none
/-- slot i's instance of C gets the field f, the j-th: a new one where it has j fields -/
def putFldK (i : Nat) (C : Addr) (f : Str) (j : Nat) (x : Kd × D) (ρ : Rho) (q : Rho → Prop) : Prop := match x.1.md, ρ[i]? with
  | some mx, some (some (m, .obj C' fs)) => (C' = C ∧ notP mx = true ∧ Nat.ble fs.length 900 = true) ∧ match m.st with
    | .O ms => match fs[j]? with
      | some (k, _) => k = f ∧ q (ρ.set i (some (m.re (.O (ms.set j mx)), .obj C (fs.set j (f, x.2)))))
      | none => (fs.map (·.1)).contains f = false ∧ q (ρ.set i (some (m.re (.O (ms ++ [mx])), .obj C (fs ++ [(f, x.2)]))))
    | _ => False
  | _, _ => False
theorem R.stO : ∀ {m : Md} {v : V} {d : D} {fp : List Addr} {ms : List Md}, R K G H m v d fp → m.st = .O ms → R K G H (.O ms) v d fp
  | m, _, _, _, _, h, e => by
    have := h.strip
    rw [e] at this
    exact this
theorem Has.own_of {kd : Kd} {m : Md} {v : V} {d : D} (h : Has K S0 T kd v d) (e : kd.md = some m) : ∃ fp, R K T.G T.H m v d fp ∧ fp.Nodup ∧ ∀ a ∈ fp, T.G a = none ∧ ¬ Ow T.f a ∧ Nw S0 a := by
  cases kd with
  | fz => cases e; exact ⟨[], .F h, List.nodup_nil, fun _ h => nomatch h⟩
  | new m => cases e; exact h
  | bor i p m => cases e
/-- slot i holds an instance -/
def wPutF (i : Nat) (C : Addr) (f : Str) (j : Nat) (we : DE (Kd × D)) : DS := fun E ρ => we ρ ⟨fun _ x ρ' => putFldK i C f j x ρ' E.nx, E.ex⟩
theorem putFld_of {i : Nat} {C : Addr} {f : Str} {j : Nat} {x : Kd × D} {v : V} {q : Rho → Prop} (okT : T.ok K) (t : S.to T) (hv : Has K S T x.1 v x.2) (h : putFldK i C f j x T.ρ q) :
    ∃ a dx fs fs' U, T.σ[i]? = some (some (.ref a)) ∧ T.H a = some (.ins C dx fs) ∧ fs.length < 1000 ∧ fs' = putF f v fs ∧ (fs.lookup f).isSome = (match T.ρ[i]? with | some (some (_, .obj _ ds)) => (ds[j]?).isSome | _ => false) ∧ U.ok K ∧ S.to U ∧ q U.ρ ∧ U.σ = T.σ ∧ U.H = upd T.H a (.ins C dx fs') := by
  unfold putFldK at h
  split at h
  · rename_i mx m C' ds ex eρ
    obtain ⟨⟨rfl, np, sz⟩, h⟩ := h
    split at h
    · rename_i ms em
      obtain ⟨v0, h2, r0⟩ := okT.slot i _ _ eρ
      have r1 := r0.stO em
      generalize hfi : T.f i = fi at r1
      have ni := okT.nd i
      rw [hfi] at ni
      cases r1 with
      | @O _ a _ dx vs _ fp ha n0 rf =>
        obtain ⟨fq, rq, nq, kq⟩ := hv.own_of ex
        have na := List.nodup_cons.mp ni
        have hlen : vs.length < 1000 := by
          have e9 := congrArg List.length rf.names
          rw [List.length_map, List.length_map] at e9
          have := Nat.le_of_ble_eq_true sz
          omega
        have hai : a ∈ T.f i := by rw [hfi]; exact List.mem_cons_self
        have aq : a ∉ fq := fun z => (kq a z).2.1 ⟨i, hai⟩
        have dj : ∀ b ∈ fq, b ∉ fp := fun b hb z => (kq b hb).2.1 ⟨i, by rw [hfi]; exact List.mem_cons_of_mem _ z⟩
        have kp : ∀ o', RF K T.G (upd T.H a o') ms vs ds fp := fun o' => rf.keep (Ex.refl _) fun b hb o ho => by
          rw [upd_ne fun z : b = a => na.1 (by rw [← z]; exact hb)]; exact ho
        have kr : ∀ o', R K T.G (upd T.H a o') mx v x.2 fq := fun o' => rq.keep (Ex.refl _) fun b hb o ho => by
          rw [upd_ne fun z : b = a => aq (by rw [← z]; exact hb)]; exact ho
        have fin : ∀ (ms' : List Md) (ds' : List (Str × D)) (fr : List Addr), (ds'.map (·.1)).Nodup → RF K T.G (upd T.H a (.ins C' dx (putF f v vs))) ms' (putF f v vs) ds' fr → fr.Nodup → (∀ b ∈ fr, b ∈ fp ∨ b ∈ fq) → q (T.ρ.set i (some (m.re (.O ms'), .obj C' ds'))) →
            ∃ U : Sta, U.ok K ∧ S.to U ∧ q U.ρ ∧ U.σ = T.σ ∧ U.H = upd T.H a (.ins C' dx (putF f v vs)) := fun ms' ds' fr n' rf' nr sr hq => by
          have r9 : R K T.G (upd T.H a (.ins C' dx (putF f v vs))) (.O ms') (.ref a) (.obj C' ds') (a :: fr) := .O upd_same n' rf'
          have z := remode_state (S := S) okT eρ h2 hai rfl r9 (List.nodup_cons.mpr ⟨fun z => (sr a z).elim na.1 aq, nr⟩) (fun b hb => by
            rcases List.mem_cons.mp hb with rfl | hb
            · exact .inl hai
            · rcases sr b hb with z | z
              · exact .inl (by rw [hfi]; exact List.mem_cons_of_mem _ z)
              · exact .inr (kq b z)) t
          exact ⟨_, z.1, z.2, hq, rfl, rfl⟩
        split at h
        · rename_i k d0 ej
          obtain ⟨rfl, h⟩ := h
          obtain ⟨fr, r9, n9, s9⟩ := RF.put (kp _) n0 na.2 ej (kr (.ins C' dx (putF k v vs))) nq dj
          obtain ⟨U, u1, u2, u3, u4, u5⟩ := fin _ _ fr (by
            have : (ds.set j (k, x.2)).map (·.1) = ds.map (·.1) := by
              rw [List.map_set]
              refine List.ext_getElem? fun l => ?_
              by_cases c : l = j
              · subst c
                by_cases hl : l < (ds.map (·.1)).length
                · rw [List.getElem?_set_self hl]; simp [ej]
                · rw [List.getElem?_eq_none (by rw [List.length_set]; omega), List.getElem?_eq_none (by omega)]
              · rw [List.getElem?_set_ne (Ne.symm c)]
            rw [this]; exact n0) r9 n9 s9 h
          obtain ⟨y, e1⟩ := rf.at ej
          refine ⟨a, dx, vs, _, U, h2, ha, hlen, rfl, ?_, u1, u2, u3, u4, u5⟩
          rw [lookup_at (by rw [rf.names]; exact n0) e1, eρ]
          simp [ej]
        · rename_i ej
          have nc : f ∉ ds.map (·.1) := by simpa using h.1
          obtain ⟨fr, r9, n9, s9⟩ := RF.app (kp _) nc na.2 (kr (.ins C' dx (putF f v vs))) nq dj
          obtain ⟨U, u1, u2, u3, u4, u5⟩ := fin _ _ fr (by
            rw [List.map_append]
            exact List.nodup_append.mpr ⟨n0, by simp, fun b hb c hc z => by
              subst z
              simp at hc
              subst hc
              exact nc hb⟩) r9 n9 s9 h.2
          refine ⟨a, dx, vs, _, U, h2, ha, hlen, rfl, ?_, u1, u2, u3, u4, u5⟩
          rw [lookup_out (by rw [rf.names]; exact nc), eρ]
          simp [ej]
    · exact h.elim
  · exact h.elim
theorem ts_putF {i : Nat} {C : Addr} {f : Str} {j : Nat} {we : DE (Kd × D)} (c : Cls K C) (na : NoAttr K C f) (h : ts K W (wPutF i C f j we) Z σ H) : sFld K (tVar i) (te K W we) f Z σ H := by
  obtain ⟨S, E, rfl, rfl, ok, w, l⟩ := h
  unfold sFld
  refine te_in ok l w fun p x T e es okT t _ v hv => ?_
  obtain ⟨a, dx, fs, _, U, h2, ha, hl, rfl, _, okU, tU, q, uσ, uH⟩ := putFld_of okT t hv e
  refine ⟨.ref a, by rw [← es]; exact h2, a, C, dx, fs, rfl, ha, c, na, hl, ?_⟩
  have z := l.nx U q okU tU
  rw [uσ, uH, es] at z
  exact z
theorem q_putF (i : Nat) (C : Addr) (j : Nat) {x f : Str} {value : Expr} {we : DE (Kd × D)} {px pos pos' : Pos} (c : Cls X.K C) (na : NoAttr X.K C f) (hv : PE X value (te X.K W we)) (hN : X.N[i]? = some x := by rfl) (hvis : Vis X.env.scope x := by first | exact Or.inl rfl | exact Or.inr (Or.inl rfl) | exact Or.inr (Or.inr rfl)) (hd : (x == ("__debug__" : Str)) = false := by decide)
    (hcd : (x == ("__classdict__" : Str)) = false := by decide) (hs : swapsWith value (some (.Attribute (.Name x px) f pos')) pos.line X.env = pure false := by rfl) : PS X (.Assign [.Attribute (.Name x px) f pos'] value pos) (ts X.K W (wPutF i C f j we)) :=
  PS.imp (ps_fld (pv i hN hvis hd hcd) hv hs) fun _ _ _ h => ts_putF c na h
/-! ### a list, a dict changed by a method, by a store -/
/-- what a list's method does: the items, the arguments, the items behind and the answer -/
abbrev OM := List D → List D → (List D → D → Prop) → Prop
def OkML (K : PySem.W.Frag) (r : V → List V → Hp → VK → Prop) (o : OM) : Prop :=
  ∀ (G H : Hp) (a : Addr) (xs : List V) (ds : List D) (vs : List V) (es : List D) (Q : VK) (q : List D → D → Prop), Ex G H → H a = some (.lst xs) → G a = none → DtA K G xs ds → DtA K G vs es → o ds es q →
    (∀ ds' z, q ds' z → ∀ (xs' : List V) (v : V), DtA K G xs' ds' → Dt K G v z → Q v (upd H a (.lst xs'))) → r (.ref a) vs H Q
/-- .. of the receiver x, a list that is somebody's own -/
def mutK (o : OM) (x : Kd × D) (es : List (Kd × D)) (q : Nat → List Nat → D → D → Prop) : Prop := match x with
  | (.bor i p (.L .F), .lst ds) => allFz es = true ∧ o ds (es.map (·.2)) fun ds' z => q i p (.lst ds') z
  | _ => False
theorem mutK_of {o : OM} {x : Kd × D} {es : List (Kd × D)} {q : Nat → List Nat → D → D → Prop} (h : mutK o x es q) : ∃ i p ds, x = (.bor i p (.L .F), .lst ds) ∧ allFz es = true ∧ o ds (es.map (·.2)) fun ds' z => q i p (.lst ds') z := by
  unfold mutK at h
  split at h
  · exact ⟨_, _, _, rfl, h⟩
  · exact h.elim
def isL : D → Bool
  | .lst _ => true
  | _ => false
def wMut (o : OM) (wr : DE (Kd × D)) (wa : DE (List (Kd × D))) : DE (Kd × D) := fun ρ P => wr ρ ⟨fun p1 x ρ1 => isL x.2 = true ∧ wa ρ1 ⟨fun p2 es ρ2 => hold x.1 p2 = true ∧ mutK o x es fun i p d' z => P.ok (p1 ++ (p2 ++ [i])) (.fz, z) (setAt ρ2 i p d'), P.ex⟩, P.ex⟩
theorem Has.lstO (ok : T.ok K) {i : Nat} {p : List Nat} {v : V} {ds : List D} (h : Has K S0 T (.bor i p (.L .F)) v (.lst ds)) : ∃ a xs, v = .ref a ∧ T.H a = some (.lst xs) ∧ DtA K T.G xs ds ∧ T.G a = none ∧ Lent K T i p (.L .F) (.ref a) (.lst ds) [a] := by
  obtain ⟨fq, l⟩ := h.lent ok
  have r := l.r
  cases r with
  | L ha t =>
    obtain ⟨t', rfl⟩ := t.F_dt
    exact ⟨_, _, rfl, ha, t', ok.out i _ (l.sub _ List.mem_cons_self), l⟩
/-- a list of one's own gets other items -/
theorem lst_put (ok : T.ok K) {i : Nat} {p : List Nat} {a : Addr} {ds ds' : List D} {xs' : List V} (l : Lent K T i p (.L .F) (.ref a) (.lst ds) [a]) (h' : DtA K T.G xs' ds') :
    ∃ U : Sta, U.ok K ∧ T.to U ∧ Tch [i] T U ∧ U.σ = T.σ ∧ U.H = upd T.H a (.lst xs') ∧ U.ρ = setAt T.ρ i p (.lst ds') ∧ U.G = T.G := by
  obtain ⟨f2, z1, z2, z3⟩ := mut_state (o' := .lst xs') (d' := .lst ds') ok l List.mem_cons_self (.L upd_same (RA.of_dt h')) (by simp) (fun b hb => hb)
  exact ⟨_, z1, z2, z3, rfl, rfl, rfl, rfl⟩
theorem te_mut {r : V → List V → Hp → VK → Prop} {o : OM} {wr : DE (Kd × D)} {wa : DE (List (Kd × D))} {Q : VK} (hr : OkML K r o) (h : te K W (wMut o wr wa) σ H Q) : tBM K "list" r (te K W wr) (ta K W wa) σ H Q := by
  obtain ⟨S, P, rfl, rfl, ok, w, k, ex⟩ := h
  refine ⟨S, _, rfl, rfl, ok, w, fun p1 x S1 w1 e1 ok1 t1 pr1 v1 h1 => ?_, ex⟩
  have hty : tyV K "list" v1 S1.H := by
    obtain ⟨kd, d⟩ := x
    have q := h1.dt ok1
    cases d with
    | lst ds =>
      cases q with
      | lst hl ha => exact .inl ⟨rfl, _, .of hl⟩
    | _ => cases w1.1
  refine ⟨hty, S1, _, e1, rfl, ok1, w1.2, fun p2 es S2 w2 e2 ok2 t2 pr2 vs h2 => ?_, fun C fl T e es okT tT dd hd => ex C fl T e es okT (t1.trans tT) dd hd⟩
  obtain ⟨i, p, ds, rfl, fz, ow⟩ := mutK_of w2.2
  obtain ⟨a, xs, rfl, ha, hx, ga, l⟩ := ((h1.stp ok1 t2 (e2.trans e1.symm) pr2 w2.1).from (Sta.refl S)).lstO ok2
  refine hr S2.G S2.H a xs ds vs _ _ _ ok2.ext ha ga hx (h2.fzs fz) ow fun ds' z qz xs' v hx' hz => ?_
  obtain ⟨U, okU, tU, cU, uσ, uH, uρ, uG⟩ := lst_put ok2 l hx'
  have z9 := k (p1 ++ (p2 ++ [i])) (.fz, z) U (by rw [uρ]; exact qz) (by rw [uσ, e2]) okU ((t1.trans t2).trans tU) (pr1.trans (pr2.trans cU)) v (show Dt K U.G v z by rw [uG]; exact hz)
  rw [uH] at z9
  exact z9
end
end VL

namespace VL
open PySem PySem.Spec PyProof.Rows L2
def optK {α : Type} : Option α → (α → Prop) → Prop
  | some a, q => q a
  | none, _ => False
theorem optK_of {α : Type} {o : Option α} {q : α → Prop} (h : optK o q) : ∃ a, o = some a ∧ q a := by
  cases o with
  | none => exact h.elim
  | some a => exact ⟨a, rfl, h⟩
section
variable {K : PySem.W.Frag} {W : WX} {G G' H H' H0 : Hp} {σ : L2.St} {ρ : Rho} {f f' : Own} {pin : Nat → Option V} {X : Cx} {S S0 S1 T T1 T2 U : Sta} {E : En} {Z : Ends}
/-- nothing new is made -/
theorem stay {Q : VK} {q : Kd × D → Prop} (ok : S.ok K) (k : ∀ z, q z → ∀ (v : V) (G' H' : Hp), Grow S.G S.H G' H' → Has K S (S.at G' H') z.1 v z.2 → Q v H') {z : Kd × D} (qz : q z) {v : V} (h : Has K S S z.1 v z.2) : Q v S.H := k z qz v S.G S.H (Grow.refl ok.ext) h
/-! ### ints -/
def intK (x y : D) (q : Int → Int → Prop) : Prop := match x, y with
  | .int i, .int j => q i j
  | _, _ => False
theorem intK_of {x y : D} {q : Int → Int → Prop} (h : intK x y q) : ∃ i j, x = .int i ∧ y = .int j ∧ q i j := by
  unfold intK at h
  split at h
  · exact ⟨_, _, rfl, rfl, h⟩
  · exact h.elim
def oI (c : Int → Int → Prop) (g : Int → Int → Int) : O2 := fun x y q => intK x.2 y.2 fun i j => c i j ∧ q (.fz, .int (g i j))
def oI0 (g : Int → Int → Int) : O2 := fun x y q => intK x.2 y.2 fun i j => q (.fz, .int (g i j))
def oB0 (g : Int → Int → Bool) : O2 := fun x y q => intK x.2 y.2 fun i j => q (.fz, .bl (g i j))
theorem ok_I {c : Int → Int → Prop} {g : Int → Int → Int} : OkR2 K (rI c fun i j => .int (g i j)) (oI c g) := fun S0 S x y dx dy Q q ok hx hy h k => by
  obtain ⟨kx, dx⟩ := dx
  obtain ⟨ky, dy⟩ := dy
  obtain ⟨i, j, rfl, rfl, hc, qz⟩ := intK_of (h : intK dx dy _)
  exact ⟨i, j, hx.int_inv ok, hy.int_inv ok, hc, stay ok k qz (v := .int (g i j)) (.int _)⟩
theorem ok_I0 {g : Int → Int → Int} : OkR2 K (rI0 fun i j => .int (g i j)) (oI0 g) := fun S0 S x y dx dy Q q ok hx hy h k => by
  obtain ⟨kx, dx⟩ := dx
  obtain ⟨ky, dy⟩ := dy
  obtain ⟨i, j, rfl, rfl, qz⟩ := intK_of (h : intK dx dy _)
  exact ⟨i, j, hx.int_inv ok, hy.int_inv ok, stay ok k qz (v := .int (g i j)) (.int _)⟩
theorem ok_B0 {g : Int → Int → Bool} : OkR2 K (rI0 fun i j => .bl (g i j)) (oB0 g) := fun S0 S x y dx dy Q q ok hx hy h k => by
  obtain ⟨kx, dx⟩ := dx
  obtain ⟨ky, dy⟩ := dy
  obtain ⟨i, j, rfl, rfl, qz⟩ := intK_of (h : intK dx dy _)
  exact ⟨i, j, hx.int_inv ok, hy.int_inv ok, stay ok k qz (v := .bl (g i j)) (.bl _)⟩
theorem OkR2.or {r r' : R2} {o o' : O2} (h : OkR2 K r o) (h' : OkR2 K r' o') : OkR2 K (fun x y H Q => r x y H Q ∨ r' x y H Q) (fun x y q => o x y q ∨ o' x y q) := fun S0 S x y dx dy Q q ok hx hy e k => by
  rcases e with e | e
  · exact .inl (h S0 S x y dx dy Q q ok hx hy e k)
  · exact .inr (h' S0 S x y dx dy Q q ok hx hy e k)
theorem OkR2.sub {r : R2} {o o' : O2} (h : OkR2 K r o) (k : ∀ x y q, o' x y q → o x y q) : OkR2 K r o' := fun S0 S x y dx dy Q q ok hx hy e => h S0 S x y dx dy Q q ok hx hy (k _ _ _ e)
/-! ### == != of flat things -/
def eqK (x y : D) (q : Bool → Prop) : Prop := match x, y with
  | .int a, .int b => q (decide (a = b))
  | .str a, .str b => q (decide (a = b))
  | .bl a, .bl b => q (decide (a = b))
  | .non, .non => q true
  | .non, .int _ => q false
  | .int _, .non => q false
  | .non, .bl _ => q false
  | .bl _, .non => q false
  | .non, .str _ => q false
  | .str _, .non => q false
  | .int _, .str _ => q false
  | .str _, .int _ => q false
  | .bl _, .str _ => q false
  | .str _, .bl _ => q false
  | _, _ => False
def vS : D → V
  | .bl b => .bl b
  | .int i => .int i
  | .str x => .str x
  | _ => .non
theorem Dt.vS {v : V} {d : D} (h : Dt K G v d) (s : scD d = true) : v = vS d := by
  cases h <;> first | rfl | cases s
theorem eqK_of {x y : D} {q : Bool → Prop} (h : eqK x y q) : (scD x = true ∧ scD y = true) ∧ scal (vS x) (vS y) = true ∧ q (decide (vS x = vS y)) := by
  cases x <;> cases y <;> simp only [eqK] at h <;> first
    | exact h.elim
    | (refine ⟨⟨rfl, rfl⟩, rfl, ?_⟩; simpa [vS] using h)
def oEq : O2 := fun x y q => eqK x.2 y.2 fun b => q (.fz, .bl b)
def oNe : O2 := fun x y q => eqK x.2 y.2 fun b => q (.fz, .bl (!b))
theorem ok_Eq : OkR2 K rEq oEq := fun S0 S x y dx dy Q q ok hx hy h k => by
  obtain ⟨⟨s1, s2⟩, s3, qz⟩ := eqK_of (h : eqK dx.2 dy.2 _)
  rw [(hx.dt ok).vS s1, (hy.dt ok).vS s2]
  exact ⟨s3, stay ok k qz (v := .bl _) (.bl _)⟩
theorem ok_Ne : OkR2 K rNe oNe := fun S0 S x y dx dy Q q ok hx hy h k => by
  obtain ⟨⟨s1, s2⟩, s3, qz⟩ := eqK_of (h : eqK dx.2 dy.2 _)
  rw [(hx.dt ok).vS s1, (hy.dt ok).vS s2]
  exact ⟨s3, stay ok k qz (v := .bl _) (.bl _)⟩
/-! ### is None -/
def isN : D → Bool
  | .non => true
  | _ => false
theorem dt_isN {v : V} {d : D} (h : Dt K G v d) : decide (v = .non) = isN d := by cases h <;> rfl
def oIsN : O2 := fun x y q => isN y.2 = true ∧ q (.fz, .bl (isN x.2))
def oNotN : O2 := fun x y q => isN y.2 = true ∧ q (.fz, .bl (!isN x.2))
theorem Dt.non_of {v : V} {d : D} (h : Dt K G v d) (s : isN d = true) : v = .non := by cases h <;> first | rfl | cases s
theorem ok_IsN : OkR2 K (fun x y H Q => y = .non ∧ Q (.bl (decide (x = .non))) H) oIsN := fun S0 S x y dx dy Q q ok hx hy h k => by
  refine ⟨(hy.dt ok).non_of h.1, ?_⟩
  rw [dt_isN (hx.dt ok)]
  exact stay ok k h.2 (v := .bl _) (.bl _)
theorem ok_NotN : OkR2 K (fun x y H Q => y = .non ∧ Q (.bl (!decide (x = .non))) H) oNotN := fun S0 S x y dx dy Q q ok hx hy h k => by
  refine ⟨(hy.dt ok).non_of h.1, ?_⟩
  rw [dt_isN (hx.dt ok)]
  exact stay ok k h.2 (v := .bl _) (.bl _)
/-! ### texts, tuples, lists joined -/
def oCatS : O2 := fun x y q => match x.2, y.2 with
  | .str a, .str b => small (a.length + b.length) = true ∧ q (.fz, .str (a ++ b))
  | _, _ => False
/-! ### keys -/
def keyOf : D → Option Key
  | .int i => some (.inl i)
  | .str x => some (.inr x)
  | _ => none
theorem Dt.key {v : V} {d : D} {k : Key} (h : Dt K G v d) (e : keyOf d = some k) : v = kV k := by
  cases h <;> simp only [keyOf] at e <;> cases e <;> rfl
def kD : Key → D
  | .inl i => .int i
  | .inr x => .str x
theorem Dt.kV (k : Key) : Dt K G (kV k) (kD k) := by
  cases k with
  | inl i => exact .int i
  | inr x => exact .str x
def valD (kvs : List (Key × D)) (k : Key) : Option D := (kvs.find? fun kv => decide (kv.1 = k)).map (·.2)
def putKD (kvs : List (Key × D)) (k : Key) (v : D) : List (Key × D) :=
  if (kvs.any fun kv => decide (kv.1 = k)) = true then kvs.map (fun kv => if kv.1 = k then (kv.1, v) else kv) else kvs ++ [(k, v)]
def dropKD (kvs : List (Key × D)) (k : Key) : List (Key × D) := kvs.filter fun kv => decide (kv.1 ≠ k)
theorem DtK.len : ∀ {vs : List (Key × V)} {ds : List (Key × D)}, DtK K G vs ds → vs.length = ds.length
  | _, _, .nil => rfl
  | _, _, .cons h t => by simp [DtK.len t]
theorem DtK.any {k : Key} : ∀ {vs : List (Key × V)} {ds : List (Key × D)}, DtK K G vs ds → (vs.any fun kv => decide (kv.1 = k)) = ds.any fun kv => decide (kv.1 = k)
  | _, _, .nil => rfl
  | _, _, .cons h t => by simp [DtK.any t]
theorem DtK.map {k : Key} {v : V} {d : D} (hv : Dt K G v d) : ∀ {vs : List (Key × V)} {ds : List (Key × D)}, DtK K G vs ds → DtK K G (vs.map fun kv => if kv.1 = k then (kv.1, v) else kv) (ds.map fun kv => if kv.1 = k then (kv.1, d) else kv)
  | _, _, .nil => .nil
  | _, _, .cons (k := k') h t => by
    simp only [List.map_cons]
    by_cases c : k' = k
    · simp only [if_pos c]; exact .cons hv (DtK.map hv t)
    · simp only [if_neg c]; exact .cons h (DtK.map hv t)
theorem DtK.append : ∀ {vs ws : List (Key × V)} {ds es : List (Key × D)}, DtK K G vs ds → DtK K G ws es → DtK K G (vs ++ ws) (ds ++ es)
  | _, _, _, _, .nil, h => h
  | _, _, _, _, .cons h t, h' => .cons h (DtK.append t h')
theorem DtK.put {vs : List (Key × V)} {ds : List (Key × D)} {k : Key} {v : V} {d : D} (h : DtK K G vs ds) (hv : Dt K G v d) : DtK K G (L2.putK vs k v) (putKD ds k d) := by
  unfold L2.putK putKD
  rw [h.any]
  split
  · exact h.map hv
  · exact h.append (.cons hv .nil)
theorem DtK.drop {k : Key} : ∀ {vs : List (Key × V)} {ds : List (Key × D)}, DtK K G vs ds → DtK K G (dropK vs k) (dropKD ds k)
  | _, _, .nil => .nil
  | _, _, .cons (k := k') h t => by
    have ih := DtK.drop (k := k) t
    unfold dropK dropKD at *
    by_cases c : k' = k
    · simpa [List.filter_cons, c] using ih
    · simp only [List.filter_cons, c, ne_eq, not_false_eq_true, decide_true, if_true]
      exact .cons h ih
theorem DtK.val {k : Key} : ∀ {vs : List (Key × V)} {ds : List (Key × D)}, DtK K G vs ds → (valD ds k = none ∧ valV vs k = none) ∨ ∃ v d, valD ds k = some d ∧ valV vs k = some v ∧ Dt K G v d
  | _, _, .nil => .inl ⟨rfl, rfl⟩
  | _, _, .cons (k := k') h t => by
    by_cases c : k' = k
    · refine .inr ⟨_, _, ?_, ?_, h⟩
      · simp [valD, List.find?_cons, c]
      · exact valV_pos c
    · rcases DtK.val (k := k) t with ⟨e1, e2⟩ | ⟨v, d, e1, e2, hd⟩
      · exact .inl ⟨by simpa [valD, List.find?_cons, c] using e1, by rw [valV_neg c]; exact e2⟩
      · exact .inr ⟨v, d, by simpa [valD, List.find?_cons, c] using e1, by rw [valV_neg c]; exact e2, hd⟩
/-- the dict of a value: frozen or somebody's own -/
def dctK (x : Kd × D) (q : List (Key × D) → Prop) : Prop := match x with
  | (.fz, .dct ds) => q ds
  | (.bor _ _ .K, .dct ds) => q ds
  | (.new .K, .dct ds) => q ds
  | _ => False
theorem Has.dctR (ok : S.ok K) {x : Kd × D} {v : V} {q : List (Key × D) → Prop} (h : Has K S0 S x.1 v x.2) (e : dctK x q) : ∃ a kvs ds, v = .ref a ∧ Rd S.H a (.dK kvs) ∧ DtK K S.G kvs ds ∧ q ds := by
  unfold dctK at e
  split at e
  · cases h with
    | dct hG hk => exact ⟨_, _, _, rfl, ok.ext.rd hG, hk, e⟩
  · obtain ⟨fq, r, _⟩ := h.bor_R ok
    cases r with
    | K hG hk => exact ⟨_, _, _, rfl, .inl hG, hk, e⟩
  · obtain ⟨fq, r, _⟩ := h
    cases r with
    | K hG hk => exact ⟨_, _, _, rfl, .inl hG, hk, e⟩
  · exact e.elim
/-! ### x in .. -/
def rDIn (neg : Bool) : R2 := fun y x H Q => ∃ a o, x = .ref a ∧ DGet H a y o ∧ Q (.bl (if neg then !o.isSome else o.isSome)) H
theorem op_dnotin (hu : X.A.units + 1 < cLine) : OpR X (compareOp .NotIn) (rDIn true) := by
  intro pins s σ H x y v u Q I rx ry h
  obtain ⟨a, ov, rfl, g, q⟩ := h
  obtain rfl : u = Value.ref a := ry
  exact d_notIn hu I g rx fun s3 I3 => ⟨.bl (!ov.isSome), H, I3, rfl, q⟩
def eqvD : D → D → Bool
  | .non, .non => true
  | .bl a, .bl b => a == b
  | .bl a, .int b => (if a then 1 else 0) == b
  | .int a, .bl b => a == (if b then 1 else 0)
  | .int a, .int b => a == b
  | .str a, .str b => a == b
  | _, _ => false
/-- flat x among flat things -/
def seqInK (x : D) (y : Kd × D) (q : Bool → Prop) : Prop := match y.2 with
  | .lst ds => (scD x = true ∧ ds.all scD = true) ∧ q (ds.any fun z => eqvD z x)
  | .tup ds => (scD x = true ∧ ds.all scD = true) ∧ q (ds.any fun z => eqvD z x)
  | .dct _ => optK (keyOf x) fun k => dctK y fun ds => q (valD ds k).isSome
  | _ => False
def oIn : O2 := fun x y q => seqInK x.2 y fun b => q (.fz, .bl b)
def oNotIn : O2 := fun x y q => seqInK x.2 y fun b => q (.fz, .bl (!b))
theorem flatV_vS (d : D) : flatV (vS d) = true := by cases d <;> rfl
theorem eqV_vS {a b : D} (h : scD a = true) (h' : scD b = true) : eqV (vS a) (vS b) = eqvD a b := by
  cases a <;> cases b <;> first
    | rfl
    | (cases h'; done)
    | (cases h; done)
theorem DtA.flat : ∀ {vs : List V} {ds : List D}, DtA K G vs ds → ds.all scD = true → vs.all flatV = true ∧ ∀ (x : D), scD x = true → inV (vS x) vs = ds.any fun z => eqvD z x
  | _, _, .nil, _ => ⟨rfl, fun _ _ => rfl⟩
  | _, _, .cons h t, e => by
    simp only [List.all_cons, Bool.and_eq_true] at e
    obtain ⟨h1, h2⟩ := DtA.flat t e.2
    have hv := h.vS e.1
    subst hv
    refine ⟨by simp [flatV_vS, h1], fun x hx => ?_⟩
    show List.any _ _ = _
    rw [List.any_cons, List.any_cons, eqV_vS e.1 hx]
    exact congrArg _ (h2 x hx)
theorem seqInK_of {x : Kd × D} {y : Kd × D} {q : Bool → Prop} {vx vy : V} (ok : S.ok K) (hx : Has K S0 S x.1 vx x.2) (hy : Has K S0 S y.1 vy y.2) (h : seqInK x.2 y q) : ∃ b, q b ∧
    ((∃ p xs, vy = .ref p ∧ (SqL K S.H p xs ∨ SqT K S.H p xs) ∧ flatV vx = true ∧ xs.all flatV = true ∧ inV vx xs = b) ∨ ∃ a o, vy = .ref a ∧ DGet S.H a vx o ∧ o.isSome = b) := by
  unfold seqInK at h
  split at h
  · rename_i ds e
    obtain ⟨kd, d⟩ := y
    subst e
    have hd := hy.dt ok
    have vx1 := (hx.dt ok).vS h.1.1
    subst vx1
    cases hd with
    | lst hl ha =>
      obtain ⟨h1, h2⟩ := ha.flat h.1.2
      exact ⟨_, h.2, .inl ⟨_, _, rfl, .inl (.of hl), flatV_vS _, h1, h2 _ h.1.1⟩⟩
  · rename_i ds e
    obtain ⟨kd, d⟩ := y
    subst e
    have hd := hy.dt ok
    have vx1 := (hx.dt ok).vS h.1.1
    subst vx1
    cases hd with
    | tup hl ha =>
      obtain ⟨h1, h2⟩ := ha.flat h.1.2
      exact ⟨_, h.2, .inl ⟨_, _, rfl, .inr hl, flatV_vS _, h1, h2 _ h.1.1⟩⟩
  · obtain ⟨k, ek, e⟩ := optK_of h
    obtain ⟨a, kvs, ds, rfl, hG, hk, qb⟩ := hy.dctR ok e
    have vx1 := (hx.dt ok).key ek
    subst vx1
    refine ⟨_, qb, .inr ⟨a, _, rfl, .inl ⟨_, _, hG, rfl, rfl⟩, ?_⟩⟩
    rcases hk.val (k := k) with ⟨e1, e2⟩ | ⟨v, d, e1, e2, _⟩
    · rw [e1, e2]; rfl
    · rw [e1, e2]; rfl
  · exact h.elim
theorem ok_NotIn : OkR2 K (fun x y H Q => rIn K true x y H Q ∨ rDIn true x y H Q) oNotIn := fun S0 S x y dx dy Q q ok hx hy h k => by
  obtain ⟨b, qb, ⟨p, xs, rfl, h1, h2, h3, h4⟩ | ⟨a, o, rfl, h1, h2⟩⟩ := seqInK_of ok hx hy (h : seqInK dx.2 dy _)
  · refine .inl ⟨p, xs, rfl, h1, h2, h3, ?_⟩
    show Q (.bl (!inV x xs)) _
    rw [h4]
    exact stay ok k qb (v := .bl _) (.bl _)
  · refine .inr ⟨a, o, rfl, h1, ?_⟩
    show Q (.bl (!o.isSome)) _
    rw [h2]
    exact stay ok k qb (v := .bl _) (.bl _)
/-! ### subscripts -/
def rIxDK : R2 := fun x y H Q => ∃ a v, x = .ref a ∧ DGet H a y (some v) ∧ Q v H
theorem ix_dict (hu : X.A.units + 1 < cLine) : IxR X rIxDK := by
  intro value slice pins s σ H x y v u Q I rx ry h hs
  obtain ⟨a, z, rfl, g, q⟩ := h
  obtain rfl : v = Value.ref a := rx
  exact tail_any (dict_typeIs I g) slot_dict_getitem.lookup (d_getItem hu I g ry fun w' s' I' rw' => ⟨z, H, I', rw', q⟩) hs
def ixKd (k : Nat) (p : List Nat) (m : Md) (j : Nat) : Kd := kAt k (p ++ [j]) m
def oIx : O2 := fun x y q => match x, y.2 with
  | (.fz, .lst ds), .int i => optK (atI ds i) fun d => q (.fz, d)
  | (.new (.L .F), .lst ds), .int i => optK (atI ds i) fun d => q (.fz, d)
  | (.bor k p (.L m), .lst ds), .int i => optK (ixN ds.length i) fun j => optK ds[j]? fun d => q (kAt k (p ++ [j]) m, d)
  | (.fz, .tup ds), .int i => optK (atI ds i) fun d => q (.fz, d)
  | (.bor k p (.T ms), .tup ds), .int i => optK (ixN ds.length i) fun j => optK ms[j]? fun m => optK ds[j]? fun d => q (kAt k (p ++ [j]) m, d)
  | (_, .str z), .int i => small z.length = true ∧ optK (atI z.cps.toList i) fun c => q (.fz, .str ⟨#[c]⟩)
  | (_, .scr ns), .int i => optK (atI ns i) fun n => q (.fz, .int n)
  | (kd, .dct es), y => optK (keyOf y) fun k => dctK (kd, .dct es) fun ds => optK (valD ds k) fun d => q (.fz, d)
  | _, _ => False
theorem DtA.atI {vs : List V} {ds : List D} {i : Int} {d : D} (h : DtA K G vs ds) (e : L2.atI ds i = some d) : ∃ v, L2.atI vs i = some v ∧ Dt K G v d := by
  unfold L2.atI at e ⊢
  rw [h.len]
  cases c : ixN ds.length i with
  | none => rw [c] at e; cases e
  | some j =>
    rw [c] at e
    exact h.get e
theorem RA.len {m : Md} : ∀ {vs : List V} {ds : List D} {fp : List Addr}, RA K G H m vs ds fp → vs.length = ds.length
  | _, _, _, .nil => rfl
  | _, _, _, .cons h t => by simp [RA.len t]
theorem Rch.snoc_lst : ∀ {H : Hp} {v0 v x : V} {p : List Nat} {a : Addr} {xs : List V} {j : Nat}, Rch H v0 p v → v = .ref a → H a = some (.lst xs) → xs[j]? = some x → Rch H v0 (p ++ [j]) x
  | _, _, _, _, _, _, _, _, .here, e, h, i => by subst e; exact .lst h i .here
  | _, _, _, _, _, _, _, _, .lst h1 i1 t, e, h, i => .lst h1 i1 (Rch.snoc_lst t e h i)
  | _, _, _, _, _, _, _, _, .ins h1 i1 t, e, h, i => .ins h1 i1 (Rch.snoc_lst t e h i)
  | _, _, _, _, _, _, _, _, .tup h1 i1 t, e, h, i => .tup h1 i1 (Rch.snoc_lst t e h i)
  | _, _, _, _, _, _, _, _, .dK h1 i1 t, e, h, i => .dK h1 i1 (Rch.snoc_lst t e h i)
theorem RS.len : ∀ {ms : List Md} {vs : List V} {ds : List D} {fp : List Addr}, RS K G H ms vs ds fp → vs.length = ds.length
  | _, _, _, _, .nil => rfl
  | _, _, _, _, .cons h t => by simp [RS.len t]
theorem Rch.snoc_tup : ∀ {H : Hp} {v0 v x : V} {p : List Nat} {a : Addr} {xs : List V} {j : Nat}, Rch H v0 p v → v = .ref a → H a = some (.tup xs) → xs[j]? = some x → Rch H v0 (p ++ [j]) x
  | _, _, _, _, _, _, _, _, .here, e, h, i => by subst e; exact .tup h i .here
  | _, _, _, _, _, _, _, _, .lst h1 i1 t, e, h, i => .lst h1 i1 (Rch.snoc_tup t e h i)
  | _, _, _, _, _, _, _, _, .ins h1 i1 t, e, h, i => .ins h1 i1 (Rch.snoc_tup t e h i)
  | _, _, _, _, _, _, _, _, .tup h1 i1 t, e, h, i => .tup h1 i1 (Rch.snoc_tup t e h i)
  | _, _, _, _, _, _, _, _, .dK h1 i1 t, e, h, i => .dK h1 i1 (Rch.snoc_tup t e h i)
theorem atI_map {α β : Type} {g : α → β} {xs : List α} {i : Int} {a : α} (h : L2.atI xs i = some a) : L2.atI (xs.map g) i = some (g a) := by
  unfold L2.atI at h ⊢
  rw [List.length_map]
  cases c : ixN xs.length i with
  | none => rw [c] at h; cases h
  | some j =>
    rw [c] at h
    have h' : xs[j]? = some a := h
    show (xs.map g)[j]? = _
    rw [List.getElem?_map, h']
    rfl
theorem ok_Ix : OkR2 K (fun x y H Q => rIx K x y H Q ∨ rIxDK x y H Q) oIx := fun S0 S x y dx dy Q q ok hx hy h k => by
  obtain ⟨ky, dy⟩ := dy
  unfold oIx at h
  split at h
  · rename_i ds i e2
    cases e2
    have hy' := hy.int_inv ok
    subst hy'
    obtain ⟨d, ed, qd⟩ := optK_of h
    cases hx with
    | lst hl ha =>
      obtain ⟨v, ev, hv⟩ := ha.atI ed
      exact .inl (.inl ⟨_, _, i, v, rfl, rfl, L2.SqL.of (ok.ext _ _ hl), ev, stay ok k qd hv⟩)
  · rename_i ds i e2
    cases e2
    have hy' := hy.int_inv ok
    subst hy'
    obtain ⟨d, ed, qd⟩ := optK_of h
    obtain ⟨fp, r, _⟩ := hx
    cases r with
    | L hG ra =>
      obtain ⟨ha, _⟩ := ra.F_dt
      obtain ⟨v, ev, hv⟩ := ha.atI ed
      exact .inl (.inl ⟨_, _, i, v, rfl, rfl, .of hG, ev, stay ok k qd hv⟩)
  · rename_i b p m ds i e2
    cases e2
    have hy' := hy.int_inv ok
    subst hy'
    obtain ⟨j, ej, h⟩ := optK_of h
    obtain ⟨d, ed, qd⟩ := optK_of h
    obtain ⟨fq, r, _⟩ := hx.bor_R ok
    cases r with
    | @L _ a xs _ fp hG ra =>
      have hlt := (List.getElem?_eq_some_iff.mp ed).1
      have hxj : xs[j]? = some (xs[j]'(by rw [ra.len]; exact hlt)) := List.getElem?_eq_getElem _
      refine .inl (.inl ⟨a, xs, i, _, rfl, rfl, .of hG, ?_, stay ok k qd (v := xs[j]'(by rw [ra.len]; exact hlt)) ?_⟩)
      · show ((ixN xs.length i).bind fun j => xs[j]?) = _
        have e9 : ixN xs.length i = some j := by rw [ra.len]; exact ej
        rw [e9]
        exact hxj
      · obtain ⟨m0, d0, v0, h1, h2, h3, h4, h5⟩ := hx
        exact Has.of_at ok h1 h2 (Rch.snoc_lst h3 rfl hG hxj) (mAt_snoc h4 rfl) (dAt_snoc h5 ed)
  · rename_i ds i e2
    cases e2
    have hy' := hy.int_inv ok
    subst hy'
    obtain ⟨d, ed, qd⟩ := optK_of h
    cases hx with
    | tup hl ha =>
      obtain ⟨v, ev, hv⟩ := ha.atI ed
      exact .inl (.inr (.inl ⟨_, _, i, v, rfl, rfl, ok.ext.t hl, ev, stay ok k qd hv⟩))
  · rename_i b p ms ds i e2
    cases e2
    have hy' := hy.int_inv ok
    subst hy'
    obtain ⟨j, ej, h⟩ := optK_of h
    obtain ⟨m, em, h⟩ := optK_of h
    obtain ⟨d, ed, qd⟩ := optK_of h
    obtain ⟨fq, r, _⟩ := hx.bor_R ok
    cases r with
    | @T _ a xs _ fp hG0 ra =>
      have hG := ok.ext _ _ hG0
      have hlt := (List.getElem?_eq_some_iff.mp ed).1
      have hxj : xs[j]? = some (xs[j]'(by rw [ra.len]; exact hlt)) := List.getElem?_eq_getElem _
      refine .inl (.inr (.inl ⟨a, xs, i, _, rfl, rfl, .inl (.inl hG), ?_, stay ok k qd (v := xs[j]'(by rw [ra.len]; exact hlt)) ?_⟩))
      · show ((ixN xs.length i).bind fun j => xs[j]?) = _
        have e9 : ixN xs.length i = some j := by rw [ra.len]; exact ej
        rw [e9]
        exact hxj
      · obtain ⟨m0, d0, v0, h1, h2, h3, h4, h5⟩ := hx
        exact Has.of_at ok h1 h2 (Rch.snoc_tup h3 rfl hG hxj) (mAt_snoc h4 em) (dAt_snoc h5 ed)
  · rename_i kd z i e2
    cases e2
    have hy' := hy.int_inv ok
    subst hy'
    have hx' := hx.str_inv ok
    subst hx'
    obtain ⟨c, ec, qd⟩ := optK_of h.2
    exact .inl (.inr (.inr ⟨z, i, c, rfl, rfl, small_sz h.1, ec, stay ok k qd (v := .str _) (.str _)⟩))
  · rename_i kd ns i e2
    cases e2
    have hy' := hy.int_inv ok
    subst hy'
    obtain ⟨n, en, qn⟩ := optK_of h
    have hd := hx.dt ok
    cases hd with
    | scr hl => exact .inl (.inl ⟨_, _, i, .int n, rfl, rfl, hl, atI_map en, stay ok k qn (v := .int _) (.int _)⟩)
  · rename_i kd es
    obtain ⟨key, ek, h⟩ := optK_of h
    obtain ⟨a, kvs, ds, rfl, hG, hk, h⟩ := Has.dctR ok (x := (kd, .dct es)) hx h
    obtain ⟨d, ed, qd⟩ := optK_of h
    have hyv := (hy.dt ok).key ek
    subst hyv
    rcases hk.val (k := key) with ⟨e1, e2⟩ | ⟨v, d', e1, e2, hd⟩
    · rw [e1] at ed; cases ed
    · rw [e1] at ed; cases ed
      exact .inr ⟨a, v, rfl, .inl ⟨_, _, hG, rfl, e2.symm⟩, stay ok k qd hd⟩
  · exact h.elim
end
end VL

namespace VL
open PySem PySem.Spec PyProof.Rows L2
section
variable {K : PySem.W.Frag} {W : WX} {G G' H H' H0 : Hp} {σ : L2.St} {ρ : Rho} {f f' : Own} {pin : Nat → Option V} {X : Cx} {S S0 S1 T T1 T2 U : Sta} {E : En} {Z : Ends}
/-! ### new things -/
theorem new_lst {Q : VK} {q : Kd × D → Prop} (ok : S.ok K) (k : ∀ z, q z → ∀ (v : V) (G' H' : Hp), Grow S.G S.H G' H' → Has K S (S.at G' H') z.1 v z.2 → Q v H') {xs : List V} {ds : List D} (qz : q (.new (.L .F), .lst ds)) (h : DtA K S.G xs ds) {p : Addr} (hp : S.H p = none) : Q (.ref p) (upd S.H p (.lst xs)) :=
  k _ qz _ S.G _ (Grow.own ok.ext hp) (Has.lst_new ok h hp hp)
theorem new_tup {Q : VK} {q : Kd × D → Prop} (ok : S.ok K) (k : ∀ z, q z → ∀ (v : V) (G' H' : Hp), Grow S.G S.H G' H' → Has K S (S.at G' H') z.1 v z.2 → Q v H') {xs : List V} {ds : List D} (qz : q (.fz, .tup ds)) (h : DtA K S.G xs ds) {p : Addr} (hp : S.H p = none) : Q (.ref p) (upd S.H p (.tup xs)) :=
  k _ qz _ _ _ (Grow.new ok.ext hp) (Dt.tup_new h (ok.ext.free hp))
/-- the items of a list: frozen or somebody's own -/
def lstK (x : Kd × D) (q : List D → Prop) : Prop := match x with
  | (.fz, .lst ds) => q ds
  | (.bor _ _ (.L .F), .lst ds) => q ds
  | (.new (.L .F), .lst ds) => q ds
  | _ => False
theorem Has.lstR (ok : S.ok K) {x : Kd × D} {v : V} {q : List D → Prop} (h : Has K S0 S x.1 v x.2) (e : lstK x q) : ∃ a xs ds, v = .ref a ∧ S.H a = some (.lst xs) ∧ DtA K S.G xs ds ∧ q ds := by
  unfold lstK at e
  split at e
  · cases h with
    | lst hG hk => exact ⟨_, _, _, rfl, ok.ext _ _ hG, hk, e⟩
  · obtain ⟨fq, r, _⟩ := h.bor_R ok
    cases r with
    | L hG hk => exact ⟨_, _, _, rfl, hG, hk.F_dt.1, e⟩
  · obtain ⟨fq, r, _⟩ := h
    cases r with
    | L hG hk => exact ⟨_, _, _, rfl, hG, hk.F_dt.1, e⟩
  · exact e.elim
/-- .. of a list or a tuple -/
def itmK (x : Kd × D) (q : List D → Prop) : Prop := match x with
  | (.fz, .tup ds) => q ds
  | x => lstK x q
theorem Has.itmR (ok : S.ok K) {x : Kd × D} {v : V} {q : List D → Prop} (h : Has K S0 S x.1 v x.2) (e : itmK x q) : ∃ a xs ds, v = .ref a ∧ (SqL K S.H a xs ∨ SqT K S.H a xs) ∧ DtA K S.G xs ds ∧ q ds := by
  unfold itmK at e
  split at e
  · cases h with
    | tup hG hk => exact ⟨_, _, _, rfl, .inr (ok.ext.t hG), hk, e⟩
  · obtain ⟨a, xs, ds, e1, e2, e3, e4⟩ := h.lstR ok e
    exact ⟨a, xs, ds, e1, .inl (.of e2), e3, e4⟩
/-! ### + -/
def oAdd : O2 := fun x y q => match x.2, y.2 with
  | .int a, .int b => q (.fz, .int (a + b))
  | .str a, .str b => small (a.length + b.length) = true ∧ q (.fz, .str (a ++ b))
  | .tup _, .tup _ => itmK x fun a => itmK y fun b => small (a.length + b.length) = true ∧ q (.fz, .tup (a ++ b))
  | .lst _, .lst _ => lstK x fun a => lstK y fun b => small (a.length + b.length) = true ∧ q (.new (.L .F), .lst (a ++ b))
  | _, _ => False
def rAddU (K : PySem.W.Frag) : R2 := fun x y H Q => rI0 (fun i j => .int (i + j)) x y H Q ∨ (∃ i j, x = .str i ∧ y = .str j ∧ i.length + j.length ≤ sizeLine ∧ Q (.str (i ++ j)) H) ∨ rCatA K x y H Q ∨ rCat x y H Q
theorem op_addU : OpR X (binaryOp .Add) (rAddU X.K) := op_add.or (op_add_str.or (op_catA.or op_cat))
theorem tupR (ok : S.ok K) {k : Kd} {l : List D} {v : V} {q : List D → Prop} (h : Has K S0 S k v (.tup l)) (e : itmK (k, .tup l) q) : ∃ a xs ds, v = .ref a ∧ SqT K S.H a xs ∧ Dt K S.G v (.tup ds) ∧ DtA K S.G xs ds ∧ q ds := by
  cases k with
  | fz =>
    cases h with
    | tup hG hk => exact ⟨_, _, _, rfl, ok.ext.t hG, .tup hG hk, hk, e⟩
  | bor i p m => exact (show False by simpa [itmK, lstK] using e).elim
  | new m => exact (show False by simpa [itmK, lstK] using e).elim
theorem ok_Add : OkR2 K (rAddU K) oAdd := fun S0 S x y dx dy Q q ok hx hy h k => by
  obtain ⟨kx, dx⟩ := dx
  obtain ⟨ky, dy⟩ := dy
  unfold oAdd at h
  split at h
  · rename_i a b e1 e2
    cases e1; cases e2
    exact .inl ⟨a, b, hx.int_inv ok, hy.int_inv ok, stay ok k h (v := .int _) (.int _)⟩
  · rename_i a b e1 e2
    cases e1; cases e2
    exact .inr (.inl ⟨a, b, hx.str_inv ok, hy.str_inv ok, small_sz h.1, stay ok k h.2 (v := .str _) (.str _)⟩)
  · rename_i a b e1 e2
    cases e1; cases e2
    obtain ⟨p, xs, ds, rfl, h1, dx, h2, h⟩ := tupR ok hx h
    obtain ⟨p', xs', ds', rfl, h1', dy, h2', h⟩ := tupR ok hy h
    refine .inr (.inr (.inl ⟨p, p', xs, xs', rfl, rfl, h1, h1', by rw [h2.len, h2'.len]; exact small_sz h.1, fun e => ?_, fun _ e => ?_, fun _ _ p hp => new_tup ok k h.2 (h2.append h2') hp⟩))
    · subst e
      cases h2
      exact stay ok k h.2 (v := .ref p') dy
    · subst e
      cases h2'
      have := h.2
      rw [List.append_nil] at this
      exact stay ok k this (v := .ref p) dx
  · rename_i a b e1 e2
    cases e1; cases e2
    obtain ⟨p, xs, ds, rfl, h1, h2, h⟩ := Has.lstR ok (x := (kx, _)) hx h
    obtain ⟨p', xs', ds', rfl, h1', h2', h⟩ := Has.lstR ok (x := (ky, _)) hy h
    exact .inr (.inr (.inr ⟨p, p', xs, xs', rfl, rfl, h1, h1', by rw [h2.len, h2'.len]; exact small_sz h.1, fun p hp => new_lst ok k h.2 (h2.append h2') hp⟩))
  · exact h.elim
/-- int, or list by int -/
def oMul : O2 := fun x y q => match x.2, y.2 with
  | .int a, .int b => CMul a b ∧ q (.fz, .int (a * b))
  | .lst _, .int n => lstK x fun ds => (0 ≤ n ∧ small (ds.length * n.toNat) = true ∧ n < 2 ^ 63) ∧ q (.new (.L .F), .lst (List.replicate n.toNat ds).flatten)
  | _, _ => False
theorem op_mulU : OpR X (binaryOp .Mult) (fun x y H Q => rI CMul (fun i j => .int (i * j)) x y H Q ∨ rRep x y H Q) := op_mul.or op_rep
theorem ok_Mul : OkR2 K (fun x y H Q => rI CMul (fun i j => .int (i * j)) x y H Q ∨ rRep x y H Q) oMul := fun S0 S x y dx dy Q q ok hx hy h k => by
  obtain ⟨kx, dx⟩ := dx
  obtain ⟨ky, dy⟩ := dy
  unfold oMul at h
  split at h
  · rename_i a b e1 e2
    cases e1; cases e2
    exact .inl ⟨a, b, hx.int_inv ok, hy.int_inv ok, h.1, stay ok k h.2 (v := .int _) (.int _)⟩
  · rename_i a n e1 e2
    cases e1; cases e2
    obtain ⟨p, xs, ds, rfl, h1, h2, h⟩ := Has.lstR ok (x := (kx, _)) hx h
    refine .inr ⟨p, n, xs, rfl, hy.int_inv ok, h1, by omega, h.1.2.2, by rw [h2.len]; exact small_sz h.1.2.1, fun p hp => new_lst ok k h.2 (h2.rep _) hp⟩
  · exact h.elim
/-! ### slices -/
def cutD (xs : List D) (lo hi : Option Int) : List D := (xs.drop (HT.sIx xs.length 0 lo)).take (HT.sIx xs.length xs.length hi - HT.sIx xs.length 0 lo)
abbrev OS := Kd × D → Option Int → Option Int → (Kd × D → Prop) → Prop
def oSl : OS := fun x lo hi q => match x.2 with
  | .lst _ => lstK x fun ds => q (.new (.L .F), .lst (cutD ds lo hi))
  | .tup _ => itmK x fun ds => q (.fz, .tup (cutD ds lo hi))
  | .str z => small z.length = true ∧ q (.fz, .str (cutS z lo hi))
  | .scr ns => q (.new (.L .F), .lst (cutD (ns.map .int) lo hi))
  | _ => False
def rSlU (K : PySem.W.Frag) : V → Option Int → Option Int → Hp → VK → Prop := fun x lo hi H Q => rSlL K x lo hi H Q ∨ rSlA K x lo hi H Q ∨ rSlS x lo hi H Q
theorem sl_any : SlR X (rSlU X.K) := sl_list.or (sl_tupA.or sl_str)
theorem DtA.cut {vs : List V} {ds : List D} (h : DtA K G vs ds) (lo hi : Option Int) : DtA K G (cutV vs lo hi) (cutD ds lo hi) := by
  unfold cutV cutD
  rw [h.len]
  exact (h.drop _).take _
theorem DtA.ints : ∀ ns : List Int, DtA K G (ns.map V.int) (ns.map D.int)
  | [] => .nil
  | n :: ns => .cons (.int n) (DtA.ints ns)
theorem cut_all {ds : List D} {lo hi : Option Int} (h : HT.sIx ds.length 0 lo = 0 ∧ HT.sIx ds.length ds.length hi = ds.length) : cutD ds lo hi = ds := by
  unfold cutD
  rw [h.1, h.2]
  simp
theorem ok_Sl {x : V} {dx : Kd × D} {lo hi : Option Int} {Q : VK} {q : Kd × D → Prop} (ok : S.ok K) (hx : Has K S0 S dx.1 x dx.2) (h : oSl dx lo hi q) (k : ∀ z, q z → ∀ (v : V) (G' H' : Hp), Grow S.G S.H G' H' → Has K S (S.at G' H') z.1 v z.2 → Q v H') : rSlU K x lo hi S.H Q := by
  obtain ⟨kx, dx⟩ := dx
  unfold oSl at h
  split at h
  · rename_i l e1
    cases e1
    obtain ⟨p, xs, ds, rfl, h1, h2, h⟩ := Has.lstR ok (x := (kx, _)) hx h
    exact .inl ⟨p, xs, rfl, .of h1, fun p hp => new_lst ok k h (h2.cut lo hi) hp⟩
  · rename_i l e1
    cases e1
    obtain ⟨p, xs, ds, rfl, h1, dx, h2, h⟩ := tupR ok hx h
    refine .inr (.inl ⟨p, xs, rfl, h1, fun e => ?_, fun _ p hp => new_tup ok k h (h2.cut lo hi) hp⟩)
    rw [h2.len] at e
    rw [cut_all e] at h
    exact stay ok k h (v := .ref p) dx
  · rename_i z e1
    cases e1
    exact .inr (.inr ⟨z, hx.str_inv ok, small_sz h.1, stay ok k h.2 (v := .str _) (.str _)⟩)
  · rename_i ns e1
    cases e1
    have hd := hx.dt ok
    cases hd with
    | scr hl => exact .inl ⟨_, _, rfl, hl, fun p hp => new_lst ok k h ((DtA.ints ns).cut lo hi) hp⟩
  · exact h.elim
def wNo : DE (Option Int) := fun ρ P => P.ok [] none ρ
def wSo (we : DE (Kd × D)) : DE (Option Int) := fun ρ P => we ρ ⟨fun p x ρ' => match x.2 with
  | .int i => P.ok p (some i) ρ'
  | _ => False, P.ex⟩
theorem q_no : PO X none (tO X.K W wNo) := PO.imp po_none fun σ H Q h => by
  obtain ⟨S, P, rfl, rfl, ok, w, k, _⟩ := h
  exact k _ _ S w rfl ok (Sta.refl S) (Tch.refl S _) _ rfl
theorem q_so {e : Expr} {we : DE (Kd × D)} (h : PE X e (te X.K W we)) : PO X (some e) (tO X.K W (wSo we)) := PO.imp (po_some h) fun σ H Q h => by
  obtain ⟨S, P, rfl, rfl, ok, w, k, ex⟩ := h
  unfold wSo at w
  refine ⟨S, _, rfl, rfl, ok, w, fun p x T e es okT t tc v hv => ?_, ex⟩
  obtain ⟨kd, d⟩ := x
  cases d with
  | int i => exact ⟨i, hv.int_inv okT, k _ _ T e es okT t tc _ rfl⟩
  | _ => exact e.elim
def wSl (we : DE (Kd × D)) (wl wh : DE (Option Int)) : DE (Kd × D) := fun ρ P => we ρ ⟨fun p1 x ρ1 => wl ρ1 ⟨fun p2 lo ρ2 => wh ρ2 ⟨fun p3 hi ρ3 => hold x.1 (p2 ++ p3) = true ∧ oSl x lo hi fun z => P.ok (p1 ++ (p2 ++ p3)) z ρ3, P.ex⟩, P.ex⟩, P.ex⟩
theorem te_sl {we : DE (Kd × D)} {wl wh : DE (Option Int)} {Q : VK} (h : te K W (wSl we wl wh) σ H Q) : tSl (rSlU K) (te K W we) (tO K W wl) (tO K W wh) σ H Q := by
  obtain ⟨S, P, rfl, rfl, ok, w, k, ex⟩ := h
  refine ⟨S, _, rfl, rfl, ok, w, fun p1 x S1 w1 e1 ok1 t1 pr1 v1 h1 => ?_, ex⟩
  refine ⟨S1, _, e1, rfl, ok1, w1, fun p2 lo S2 w2 e2 ok2 t2 pr2 lo' h2 => ?_, fun C fl T e es okT tT dd hd => ex C fl T e es okT (t1.trans tT) dd hd⟩
  refine ⟨S2, _, e2, rfl, ok2, w2, fun p3 hi S3 w3 e3 ok3 t3 pr3 hi' h3 => ?_, fun C fl T e es okT tT dd hd => ex C fl T e es okT ((t1.trans t2).trans tT) dd hd⟩
  cases h2; cases h3
  have t13 := (t1.trans t2).trans t3
  refine ok_Sl (S0 := S) ok3 (h1.stp ok1 (t2.trans t3) (e3.trans e1.symm) (pr2.trans pr3) w3.1) w3.2 fun z qz v G' H' g hz => ?_
  exact k _ _ (S3.at G' H') qz e3 (Sta.grow ok3 g) (t13.trans g.to) ((pr1.trans (pr2.trans pr3)).add g.tch) v (hz.from t13)
theorem q_sl {e : Expr} {lo hi : Option Expr} {we : DE (Kd × D)} {wl wh : DE (Option Int)} {p2 pos : Pos} (he : PE X e (te X.K W we)) (hl : PO X lo (tO X.K W wl)) (hh : PO X hi (tO X.K W wh)) : PE X (.Subscript e (.Slice lo hi none p2) pos) (te X.K W (wSl we wl wh)) :=
  PE.imp (pe_slice sl_any he hl hh) fun _ _ _ h => te_sl h
/-- a[b] -/
theorem q_ixU {a b : Expr} {wa wb : DE (Kd × D)} {pos : Pos} (hu : X.A.units + 1 < cLine) (ha : PE X a (te X.K W wa)) (hb : PE X b (te X.K W wb)) (hs : PlainIx b := by first | exact fun _ _ => rfl | (intro _ _; with_unfolding_all rfl)) : PE X (.Subscript a b pos) (te X.K W (wOp oIx wa wb)) := q_ix (ix_seq.or (ix_dict hu)) ok_Ix ha hb hs
/-! ### builtins -/
/-- one argument -/
def one1 (xs : List (Kd × D)) (q : Kd × D → Prop) : Prop := match xs with
  | [x] => q x
  | _ => False
def two2 (xs : List (Kd × D)) (q : Kd × D → Kd × D → Prop) : Prop := match xs with
  | [x, y] => q x y
  | _ => False
theorem one1_of {xs : List (Kd × D)} {q : Kd × D → Prop} (h : one1 xs q) : ∃ x, xs = [x] ∧ q x := by
  unfold one1 at h
  split at h
  · exact ⟨_, rfl, h⟩
  · exact h.elim
theorem two2_of {xs : List (Kd × D)} {q : Kd × D → Kd × D → Prop} (h : two2 xs q) : ∃ x y, xs = [x, y] ∧ q x y := by
  unfold two2 at h
  split at h
  · exact ⟨_, _, rfl, h⟩
  · exact h.elim
theorem HasA.one {vs : List V} {x : Kd × D} (h : HasA K S0 S vs [x]) : ∃ v, vs = [v] ∧ Has K S0 S x.1 v x.2 := by
  cases h with
  | cons h t => cases t; exact ⟨_, rfl, h⟩
theorem HasA.two {vs : List V} {x y : Kd × D} (h : HasA K S0 S vs [x, y]) : ∃ v u, vs = [v, u] ∧ Has K S0 S x.1 v x.2 ∧ Has K S0 S y.1 u y.2 := by
  cases h with
  | cons h t =>
    obtain ⟨u, rfl, h'⟩ := t.one
    exact ⟨_, _, rfl, h, h'⟩
/-- len -/
def lenD : D → Option Nat
  | .lst ds => some ds.length
  | .tup ds => some ds.length
  | .dct ds => some ds.length
  | .scr ns => some ns.length
  | .str z => if small z.length = true then some z.length else none
  | _ => none
def oLen : OL := fun xs q => one1 xs fun x => optK (lenD x.2) fun n => q (.fz, .int n)
def rLenU (K : PySem.W.Frag) : List V → Hp → VK → Prop := fun xs H Q => (∃ p ys, xs = [.ref p] ∧ (SqL K H p ys ∨ SqT K H p ys) ∧ Q (.int ys.length) H) ∨ (∃ z, xs = [.str z] ∧ z.length ≤ sizeLine ∧ Q (.int z.length) H) ∨ ∃ a kvs, xs = [V.ref a] ∧ Rd H a (.dK kvs) ∧ Q (.int kvs.length) H
theorem CallR.or {fv : Value} {r r' : List V → Hp → VK → Prop} (h : CallR X fv r) (h' : CallR X fv r') : CallR X fv (fun xs H Q => r xs H Q ∨ r' xs H Q) := fun pins s σ H xs us Q I rx q => by
  rcases q with q | q
  · exact h pins s σ H xs us Q I rx q
  · exact h' pins s σ H xs us Q I rx q
theorem call_lenR : CallR X (.builtin "len") (fun xs H Q => ∃ a kvs, xs = [V.ref a] ∧ Rd H a (.dK kvs) ∧ Q (.int kvs.length) H) := by
  intro pins s σ H xs us Q I r h
  obtain ⟨a, kvs, rfl, ha, q⟩ := h
  obtain ⟨u, rfl, ru⟩ := vals1 r
  cases ru
  exact d_len I ha fun t s' I' => ⟨.int kvs.length, H, I', ⟨t, rfl⟩, q⟩
theorem call_lenU : CallR X (.builtin "len") (rLenU X.K) := CallR.or call_len_seq (CallR.or call_len_str call_lenR)
theorem ok_Len : OkRL K (rLenU K) oLen := fun S0 S vs xs Q q ok hA h0 k => by
  obtain ⟨x, rfl, h⟩ := one1_of h0
  obtain ⟨n, en, qn⟩ := optK_of h
  obtain ⟨v, rfl, hx⟩ := hA.one
  obtain ⟨kd, d⟩ := x
  have fin := stay ok k qn (v := .int n) (.int _)
  have hd := hx.dt ok
  cases d with
  | lst ds =>
    cases en
    cases hd with
    | lst h1 h2 => exact .inl ⟨_, _, rfl, .inl (.of h1), by rw [h2.len]; exact fin⟩
  | tup ds =>
    cases en
    cases hd with
    | tup h1 h2 => exact .inl ⟨_, _, rfl, .inr h1, by rw [h2.len]; exact fin⟩
  | dct ds =>
    cases en
    cases hd with
    | dct h1 h2 => exact .inr (.inr ⟨_, _, rfl, h1, by rw [h2.len]; exact fin⟩)
  | scr ns =>
    cases en
    cases hd with
    | scr h1 => exact .inl ⟨_, _, rfl, .inl h1, by rw [List.length_map]; exact fin⟩
  | str z =>
    simp only [lenD] at en
    split at en
    · rename_i hz
      cases en
      cases hd with
      | str => exact .inr (.inl ⟨z, rfl, small_sz hz, fin⟩)
    · cases en
  | _ => cases en
/-- list(..) of a list, a tuple, a dict -/
def oList : OL := fun xs q => one1 xs fun x => match x.2 with
  | .dct _ => dctK x fun ds => q (.new (.L .F), .lst (ds.map fun kv => kD kv.1))
  | _ => itmK x fun ds => q (.new (.L .F), .lst ds)
def rListU (K : PySem.W.Frag) : List V → Hp → VK → Prop := fun xs H Q => (∃ p ys, xs = [.ref p] ∧ (SqL K H p ys ∨ SqT K H p ys) ∧ ∀ l, H l = none → Q (.ref l) (upd H l (.lst ys))) ∨ ∃ (a : Addr) (kvs : List (Key × V)), xs = [.ref a] ∧ Rd H a (.dK kvs) ∧ ∀ p, H p = none → Q (.ref p) (upd H p (.lst (kvs.map fun kv => L2.kV kv.1)))
theorem call_listU (hc : X.calm = true) : CallR X (.type "list") (rListU X.K) := CallR.or call_list_of (call_listD hc)
theorem DtK.keys : ∀ {vs : List (Key × V)} {ds : List (Key × D)}, DtK K G vs ds → DtA K G (vs.map fun kv => L2.kV kv.1) (ds.map fun kv => kD kv.1)
  | _, _, .nil => .nil
  | _, _, .cons h t => .cons (Dt.kV _) (DtK.keys t)
theorem ok_List : OkRL K (rListU K) oList := fun S0 S vs xs Q q ok hA h0 k => by
  obtain ⟨x, rfl, h⟩ := one1_of h0
  obtain ⟨v, rfl, hx⟩ := hA.one
  split at h
  · rename_i e1
    obtain ⟨a, kvs, ds, rfl, h1, h2, h⟩ := hx.dctR ok h
    exact .inr ⟨a, kvs, rfl, h1, fun p hp => new_lst ok k h h2.keys hp⟩
  · obtain ⟨a, ys, ds, rfl, h1, h2, h⟩ := hx.itmR ok h
    exact .inl ⟨a, ys, rfl, h1, fun p hp => new_lst ok k h h2 hp⟩
/-- tuple(..) of a list or a tuple -/
def oTuple : OL := fun xs q => one1 xs fun x => itmK x fun ds => q (.fz, .tup ds)
theorem ok_Tuple : OkRL K (fun xs H Q => ∃ p ys, xs = [.ref p] ∧ ((SqL K H p ys ∧ ∀ l, H l = none → Q (.ref l) (upd H l (.tup ys))) ∨ (SqT K H p ys ∧ Q (.ref p) H))) oTuple := fun S0 S vs xs Q q ok hA h0 k => by
  obtain ⟨⟨kd, d⟩, rfl, h⟩ := one1_of h0
  obtain ⟨v, rfl, hx⟩ := hA.one
  by_cases c : ∃ l, d = .tup l
  · obtain ⟨l, rfl⟩ := c
    obtain ⟨a, ys, ds, rfl, h1, dx, h2, h⟩ := tupR ok hx h
    exact ⟨a, ys, rfl, .inr ⟨h1, stay ok k h (v := .ref a) dx⟩⟩
  · have h' : lstK (kd, d) fun ds => q (.fz, .tup ds) := by
      unfold itmK at h
      split at h
      · rename_i l e
        cases e
        exact absurd ⟨_, rfl⟩ c
      · exact h
    obtain ⟨a, ys, ds, rfl, h1, h2, h⟩ := Has.lstR ok (x := (kd, d)) hx h'
    exact ⟨a, ys, rfl, .inl ⟨.of h1, fun p hp => new_tup ok k h h2 hp⟩⟩
/-- dict(..) of a dict -/
def oDict : OL := fun xs q => one1 xs fun x => dctK x fun ds => q (.new .K, .dct ds)
/-- lists of ints, of bools -/
def intsOf : List D → Option (List Int)
  | [] => some []
  | .int i :: r => match intsOf r with
    | some ns => some (i :: ns)
    | none => none
  | _ => none
def blsOf : List D → Option (List Bool)
  | [] => some []
  | .bl i :: r => match blsOf r with
    | some ns => some (i :: ns)
    | none => none
  | _ => none
theorem DtA.bls_of : ∀ {vs : List V} {ds : List D} {ns : List Bool}, DtA K G vs ds → blsOf ds = some ns → vs = ns.map V.bl
  | _, _, _, .nil, e => by cases e; rfl
  | _, _, _, .cons h t, e => by
    cases h <;> simp only [blsOf] at e <;> first
      | cases e
      | (split at e
         · rename_i e'
           cases e
           rw [DtA.bls_of t e']
           rfl
         · cases e)
def oSorted : OL := fun xs q => one1 xs fun x => lstK x fun ds => optK (intsOf ds) fun ns => ∀ ns' : List Int, ns'.Perm ns → ns'.Pairwise (· ≤ ·) → q (.new (.L .F), .lst (ns'.map .int))
def oAll : OL := fun xs q => one1 xs fun x => lstK x fun ds => optK (blsOf ds) fun bs => q (.fz, .bl (bs.all id))
theorem ok_All : OkRL K (rAll K) oAll := fun S0 S vs xs Q q ok hA h0 k => by
  obtain ⟨x, rfl, h⟩ := one1_of h0
  obtain ⟨v, rfl, hx⟩ := hA.one
  obtain ⟨a, ys, ds, rfl, h1, h2, h⟩ := hx.lstR ok h
  obtain ⟨bs, en, h⟩ := optK_of h
  have e := h2.bls_of en
  subst e
  exact ⟨a, bs, rfl, .of h1, stay ok k h (v := .bl _) (.bl _)⟩
def oSum : OL := fun xs q => one1 xs fun x => lstK x fun ds => optK (intsOf ds) fun ns => q (.fz, .int ns.sum)
def oMax2 : OL := fun xs q => two2 xs fun x y => intK x.2 y.2 fun i j => q (.fz, .int (if j > i then j else i))
def oMin2 : OL := fun xs q => two2 xs fun x y => intK x.2 y.2 fun i j => q (.fz, .int (if j < i then j else i))
theorem ok_Min2 : OkRL K (fun xs H Q => ∃ i j, xs = [.int i, .int j] ∧ Q (.int (if j < i then j else i)) H) oMin2 := fun S0 S vs xs Q q ok hA h0 k => by
  obtain ⟨⟨k1, d1⟩, ⟨k2, d2⟩, rfl, h⟩ := two2_of h0
  obtain ⟨v, u, rfl, hx, hy⟩ := hA.two
  obtain ⟨i, j, rfl, rfl, h⟩ := intK_of (h : intK d1 d2 _)
  obtain rfl := hx.int_inv ok
  obtain rfl := hy.int_inv ok
  exact ⟨i, j, rfl, stay ok k h (v := .int _) (.int _)⟩
/-- max, min of a list of ints -/
def oMaxL : OL := fun xs q => one1 xs fun x => lstK x fun ds => optK (intsOf ds) fun ns => 0 < ns.length ∧ ∀ m, m ∈ ns → (∀ y, y ∈ ns → y ≤ m) → q (.fz, .int m)
def oMinL : OL := fun xs q => one1 xs fun x => lstK x fun ds => optK (intsOf ds) fun ns => 0 < ns.length ∧ ∀ m, m ∈ ns → (∀ y, y ∈ ns → m ≤ y) → q (.fz, .int m)
/-- int(..) of an int or a bool -/
def oInt : OL := fun xs q => one1 xs fun x => match x.2 with
  | .int i => q (.fz, .int i)
  | .bl b => q (.fz, .int (if b then 1 else 0))
  | _ => False
def oAbs : OL := fun xs q => one1 xs fun x => match x.2 with
  | .int i => q (.fz, .int (if i < 0 then -i else i))
  | _ => False
def oStr : OL := fun xs q => one1 xs fun x => match x.2 with
  | .int i => i.natAbs.log2 < 1920 ∧ q (.fz, .str (toString i))
  | _ => False
/-! ### isinstance -/
def tyN : D → Option String
  | .non => some "NoneType"
  | .bl _ => some "bool"
  | .int _ => some "int"
  | .str _ => some "str"
  | .lst _ => some "list"
  | .tup _ => some "tuple"
  | .dct _ => some "dict"
  | .scr _ => some "list"
  | .obj _ _ => none
  | .exc _ => none
  | .ndc _ => none
  | .exf _ _ => none
/-- is the type's name t of the class T: the builtin ones -/
def isTy (t T : String) : Bool := t == T || (t == "bool" && T == "int")
theorem TyX.lst {a : Addr} {xs : List V} (h : SqL K H a xs) : TyX K H (.ref a) (.type "list") := by
  rcases h with (h | ⟨o, h⟩) | ⟨o, its, n, hk, hc, _⟩
  · exact .base (.lst h)
  · exact .base (.frz h)
  · exact .kList hk hc
theorem TyX.tup {a : Addr} {xs : List V} (h : SqT K H a xs) : TyX K H (.ref a) (.type "tuple") := by
  rcases h with (h | ⟨o, h⟩) | ⟨o, its, n, hk, hc, _⟩
  · exact .base (.tup h)
  · exact .fTuple h
  · exact .kTuple hk hc
theorem Dt.tyX {v : V} {d : D} {t : String} (h : Dt K G v d) (e : tyN d = some t) : TyX K G v (.type t) := by
  cases h with
  | non => cases e; exact .base .non
  | bl => cases e; exact .base (.bl _)
  | int => cases e; exact .base (.int _)
  | str => cases e; exact .base (.str _)
  | lst h1 h2 => cases e; exact .base (.lst h1)
  | tup h1 h2 => cases e; exact TyX.tup h1
  | dct h1 h2 =>
    cases e
    rcases h1 with h1 | ⟨o, h1⟩
    · exact .base (.dK h1)
    · exact .fDict h1
  | scr h1 => cases e; exact TyX.lst h1
  | obj => cases e
  | exc => cases e
  | ndc => cases e
  | exf => cases e
def wIsi (T : String) (we : DE (Kd × D)) : DE (Kd × D) := fun ρ P => we ρ ⟨fun p x ρ' => optK (tyN x.2) fun t => P.ok p (.fz, .bl (isTy t T)) ρ', P.ex⟩
def goodTy (T : String) : Bool := ["NoneType", "bool", "int", "str", "list", "tuple", "dict"].all fun t => match kitB t T with
  | some b => b == isTy t T
  | none => false
theorem tyN_mem {d : D} {t : String} (e : tyN d = some t) : t ∈ ["NoneType", "bool", "int", "str", "list", "tuple", "dict"] := by
  cases d <;> cases e <;> decide
theorem te_isi {T : String} {we : DE (Kd × D)} {Q : VK} (hT : goodTy T = true) (h : te K W (wIsi T we) σ H Q) : tCB (rIsi K) (tCons (te K W we) (tCons (tC (.ty T)) tNil)) σ H Q := by
  obtain ⟨S, P, rfl, rfl, ok, w, k, ex⟩ := h
  refine ⟨S, _, rfl, rfl, ok, w, fun p x T' e es okT t tc v hv => ?_, ex⟩
  obtain ⟨tn, et, q⟩ := optK_of e
  have hk : kitB tn T = some (isTy tn T) := by
    have h9 := List.all_eq_true.mp hT tn (tyN_mem et)
    split at h9
    · rename_i b eb
      rw [eb]
      exact congrArg some (by simpa using h9)
    · cases h9
  exact ⟨v, .ty T, .type tn, .type T, isTy tn T, rfl, .ty T, (hv.dt okT).tyX et, kit_ty hk, k _ _ T' q es okT t tc _ (.bl _)⟩
theorem q_isi (T : String) {x : Str} {e : Expr} {we : DE (Kd × D)} {p p2 pos : Pos} (hm : X.mg "isinstance" = none) (hmT : X.mg x = none) (he : PE X e (te X.K W we)) (hv : bootBuiltins x = some (.type T) := by rfl) (hg : Gl X "isinstance" := by rfl) (hgT : Gl X x := by rfl) (hT : goodTy T = true := by decide +kernel)
    (hn : x ≠ "__name__" := by decide) (hdb : (x == ("__debug__" : Str)) = false := by decide) (hs : starEach [e, .Name x p2] X.env = (false, eval e X.env) :: starEach [.Name x p2] X.env := by rfl) (hs2 : starEach [.Name x p2] X.env = (false, eval (.Name x p2) X.env) :: starEach [] X.env := by rfl) (hpl : (backTo pos (starEach [.Name x p2] X.env)).any (·.1) = false := by rfl) :
    PE X (.Call (.Name "isinstance" p) [e, .Name x p2] [] pos) (te X.K W (wIsi T we)) :=
  PE.imp (pe_callB call_isi hg hm (by rfl) (pa_cons he (pa_cons (pe_bltn (v := .ty T) hgT hmT hv rfl hn hdb) pa_nil hs2) hs) (by decide) (by decide) hs hpl) fun _ _ _ h => te_isi hT h
end
end VL

namespace VL
open PySem PySem.Spec PyProof.Rows L2
section
variable {K : PySem.W.Frag} {W : WX} {G G' H H' H0 : Hp} {σ : L2.St} {ρ : Rho} {f f' : Own} {pin : Nat → Option V} {X : Cx} {S S0 S1 T T1 T2 U : Sta} {E : En} {Z : Ends}
/-! ### a list's methods -/
def mApp : OM := fun ds es q => match es with
  | [x] => small (ds.length + 1) = true ∧ q (ds ++ [x]) .non
  | _ => False
theorem small_lt {n : Nat} (h : small (n + 1) = true) : n < sizeLine := Nat.lt_of_lt_of_le (Nat.lt_succ_self _) (small_sz h)
theorem ok_App : OkML K rAppend mApp := fun G H a xs ds vs es Q q e ha ga hx hv h k => by
  unfold mApp at h
  split at h
  · cases hv with
    | cons h1 t =>
      cases t
      exact ⟨a, xs, _, rfl, rfl, ha, by rw [hx.len]; exact small_lt h.1, k _ _ h.2 _ _ (hx.append (.cons h1 .nil)) .non⟩
  · exact h.elim
def mExt : OM := fun ds es q => match es with
  | [.lst xs] => small (ds.length + xs.length) = true ∧ q (ds ++ xs) .non
  | _ => False
def mClear : OM := fun ds es q => match es with
  | [] => q [] .non
  | _ => False
def mRev : OM := fun ds es q => match es with
  | [] => q ds.reverse .non
  | _ => False
theorem DtA.dropLast : ∀ {vs : List V} {ds : List D}, DtA K G vs ds → DtA K G vs.dropLast ds.dropLast
  | _, _, .nil => .nil
  | _, _, .cons h .nil => .nil
  | _, _, .cons h (.cons h' t) => .cons h (DtA.dropLast (.cons h' t))
theorem DtA.erase : ∀ {vs : List V} {ds : List D} (j : Nat), DtA K G vs ds → DtA K G (vs.eraseIdx j) (ds.eraseIdx j)
  | _, _, _, .nil => .nil
  | _, _, 0, .cons h t => t
  | _, _, j + 1, .cons h t => .cons h (DtA.erase j t)
def mPop : OM := fun ds es q => match es with
  | [] => optK ds[ds.length - 1]? fun d => q ds.dropLast d
  | [.int i] => (-(2 ^ 63) ≤ i ∧ i < 2 ^ 63) ∧ optK (seqIndex? i ds.length) fun j => optK ds[j]? fun d => q (ds.eraseIdx j) d
  | _ => False
def q_app' := @te_mut
section
variable {o : Expr} {wr : DE (Kd × D)} {wa : DE (List (Kd × D))} {e : Expr} {es : List Expr} {name : Str} {id : String} {r : V → List V → Hp → VK → Prop} {om : OM} {apos cpos : Pos}
theorem q_lm (slot : Slot "list" name id) (hty : typeOf (.builtin id) = pure (.type "method_descriptor")) (hm : MtR X id r) (hr : OkML X.K r om) (ho : PE X o (te X.K W wr)) (ha : PA X (e :: es) (ta X.K W wa))
    (hbase : attributeBase o name X.env (eval o X.env) = eval o X.env := by rfl)
    (hfew : ((backTo cpos (starEach (e :: es) X.env)).all (fun x => !x.1) && (backToKw cpos (keywordEach [] X.env)).all (fun x => x.1.isSome) && decide ((e :: es).length + ([] : List Keyword).length + (if ([] : List Keyword).isEmpty then 0 else 1) < 30)) = true := by rfl)
    (hline : (apos.endLine == cpos.line) = true := by rfl) (hs : starEach (e :: es) X.env = (false, eval e X.env) :: starEach es X.env := by rfl) (hplain : (backTo cpos (starEach es X.env)).any (·.1) = false := by rfl) :
    PE X (.Call (.Attribute o name apos) (e :: es) [] cpos) (te X.K W (wMut om wr wa)) := PE.imp (pe_bm PySem.F.plainAttrs_list slot hty hm ho ha hbase hfew hline hs hplain) fun _ _ _ h => te_mut hr h
end
/-! ### a dict's methods -/
def isDct : D → Bool
  | .dct _ => true
  | _ => false
/-- d.get(k), d.get(k, x) -/
def oGet (x : Kd × D) (es : List (Kd × D)) (q : Kd × D → Prop) : Prop := match es with
  | [y] => optK (keyOf y.2) fun k => dctK x fun ds => match valD ds k with
    | some d => q (.fz, d)
    | none => q (.fz, .non)
  | [y, (.fz, z)] => optK (keyOf y.2) fun k => dctK x fun ds => match valD ds k with
    | some d => q (.fz, d)
    | none => q (.fz, z)
  | _ => False
def rGetU : V → List V → Hp → VK → Prop := fun x vs H Q => (∃ a y o, x = .ref a ∧ vs = [y] ∧ DGet H a y o ∧ Q (o.getD .non) H) ∨ ∃ a y z o, x = .ref a ∧ vs = [y, z] ∧ DGet H a y o ∧ Q (o.getD z) H
def wGet (wr : DE (Kd × D)) (wa : DE (List (Kd × D))) : DE (Kd × D) := fun ρ P => wr ρ ⟨fun p1 x ρ1 => isDct x.2 = true ∧ wa ρ1 ⟨fun p2 es ρ2 => hold x.1 p2 = true ∧ oGet x es fun z => P.ok (p1 ++ p2) z ρ2, P.ex⟩, P.ex⟩
def tBMD (r : V → List V → Hp → VK → Prop) (to : TE) (t : TA) : TE := fun σ H Q => to σ H fun x H1 => (∃ a, x = .ref a ∧ IsD H1 a) ∧ t σ H1 fun xs H2 => r x xs H2 Q
section
variable {o e : Expr} {es : List Expr} {wr : DE (Kd × D)} {wa : DE (List (Kd × D))} {apos cpos : Pos}
end
/-- a dict of one's own gets other entries -/
theorem Has.dctO (ok : T.ok K) {i : Nat} {p : List Nat} {v : V} {ds : List (Key × D)} (h : Has K S0 T (.bor i p .K) v (.dct ds)) : ∃ a xs, v = .ref a ∧ T.H a = some (.dK xs) ∧ DtK K T.G xs ds ∧ T.G a = none ∧ Lent K T i p .K (.ref a) (.dct ds) [a] := by
  obtain ⟨fq, l⟩ := h.lent ok
  have r := l.r
  cases r with
  | K ha t => exact ⟨_, _, rfl, ha, t, ok.out i _ (l.sub _ List.mem_cons_self), l⟩
theorem dct_put (ok : T.ok K) {i : Nat} {p : List Nat} {a : Addr} {ds ds' : List (Key × D)} {xs' : List (Key × V)} (l : Lent K T i p .K (.ref a) (.dct ds) [a]) (h' : DtK K T.G xs' ds') :
    ∃ U : Sta, U.ok K ∧ T.to U ∧ Tch [i] T U ∧ U.σ = T.σ ∧ U.H = upd T.H a (.dK xs') ∧ U.ρ = setAt T.ρ i p (.dct ds') ∧ U.G = T.G := by
  obtain ⟨f2, z1, z2, z3⟩ := mut_state (o' := .dK xs') (d' := .dct ds') ok l List.mem_cons_self (.K upd_same h') (by simp) (fun b hb => hb)
  exact ⟨_, z1, z2, z3, rfl, rfl, rfl, rfl⟩
/-- d.pop(k), d.pop(k, x) -/
def dPopK (x : Kd × D) (es : List (Kd × D)) (q : Nat → List Nat → D → D → Prop) (q0 : D → Prop) : Prop := match x, es with
  | (.bor i p .K, .dct ds), [y] => optK (keyOf y.2) fun k => optK (valD ds k) fun d => q i p (.dct (dropKD ds k)) d
  | (.bor i p .K, .dct ds), [y, (.fz, z)] => optK (keyOf y.2) fun k => match valD ds k with
    | some d => q i p (.dct (dropKD ds k)) d
    | none => q0 z
  | _, _ => False
def wPopD (wr : DE (Kd × D)) (wa : DE (List (Kd × D))) : DE (Kd × D) := fun ρ P => wr ρ ⟨fun p1 x ρ1 => isDct x.2 = true ∧ wa ρ1 ⟨fun p2 es ρ2 => hold x.1 p2 = true ∧ dPopK x es (fun i p d' z => P.ok (p1 ++ (p2 ++ [i])) (.fz, z) (setAt ρ2 i p d')) (fun z => P.ok (p1 ++ p2) (.fz, z) ρ2), P.ex⟩, P.ex⟩
def rPopU : V → List V → Hp → VK → Prop := fun x vs H Q => (∃ a kvs k v, x = .ref a ∧ vs = [kV k] ∧ H a = some (.dK kvs) ∧ valV kvs k = some v ∧ Q v (upd H a (.dK (dropK kvs k)))) ∨
  ∃ a kvs k z, x = .ref a ∧ vs = [kV k, z] ∧ H a = some (.dK kvs) ∧ (∀ v, valV kvs k = some v → Q v (upd H a (.dK (dropK kvs k)))) ∧ (valV kvs k = none → Q z H)
section
variable {o e : Expr} {es : List Expr} {wr : DE (Kd × D)} {wa : DE (List (Kd × D))} {apos cpos : Pos}
end
/-! ### o[i] = v -/
def subK (r y : Kd × D) (v : D) (q : Nat → List Nat → D → Prop) : Prop := match r, y.2 with
  | (.bor i p (.L .F), .lst ds), .int k => optK (ixN ds.length k) fun j => q i p (.lst (ds.set j v))
  | (.bor i p .K, .dct ds), d => optK (keyOf d) fun k => small (ds.length + 1) = true ∧ q i p (.dct (putKD ds k v))
  | _, _ => False
theorem DtA.set : ∀ {vs : List V} {ds : List D} (j : Nat) {v : V} {d : D}, DtA K G vs ds → Dt K G v d → DtA K G (vs.set j v) (ds.set j d)
  | _, _, _, _, _, .nil, _ => .nil
  | _, _, 0, _, _, .cons h t, hv => .cons hv t
  | _, _, j + 1, _, _, .cons h t, hv => .cons h (DtA.set j t hv)
def wSub (wv wr wi : DE (Kd × D)) : DS := fun E ρ => wFz wv ρ ⟨fun _ x ρ1 => x.1.md = some .F ∧ wr ρ1 ⟨fun _ r ρ2 => wi ρ2 ⟨fun p3 y ρ3 => hold r.1 p3 = true ∧ subK r y x.2 fun i p d' => E.nx (setAt ρ3 i p d'), E.ex⟩, E.ex⟩, E.ex⟩
theorem Kd.md_F {k : Kd} (h : k.md = some .F) : k = .fz ∨ k = .new .F := by
  cases k with
  | fz => exact .inl rfl
  | new m => cases h; exact .inr rfl
  | bor i p m => cases h
theorem ts_sub {wv wr wi : DE (Kd × D)} (h : ts K W (wSub wv wr wi) Z σ H) : tAsg (te K W wv) (gSub (te K W wr) (te K W wi) fun o i v H Q => rSetL o i v H Q ∨ rSetD o i v H Q) Z σ H := by
  obtain ⟨S, E, rfl, rfl, ok, w, l⟩ := h
  unfold tAsg gSub
  refine te_fz (te_in ok l w fun p x T e es okT t _ v hv => ?_)
  rw [← es]
  have l1 := l.to t
  have hvF : Dt K T.G v x.2 := by
    obtain ⟨kd, d⟩ := x
    rcases Kd.md_F e.1 with e9 | e9
    · have e9 : kd = .fz := e9
      subst e9; exact hv
    · have e9 : kd = .new .F := e9
      subst e9
      obtain ⟨fp, r, _⟩ := hv
      exact r.F_inv.1
  refine te_in okT l1 e.2 fun p2 r T2 e2 es2 ok2 t2 _ o hr => ?_
  rw [← es2]
  have l2 := l1.to t2
  refine te_in ok2 l2 e2 fun p3 y T3 e3 es3 ok3 t3 c3 i hy => ?_
  rw [← es3]
  have l3 := l2.to t3
  have hr3 := hr.stp ok2 t3 es3 c3 e3.1
  have hv3 : Dt K T3.G v x.2 := (hvF.mono t2.stp.gext).mono t3.stp.gext
  have e4 : subK r y x.2 fun i p d' => E.nx (setAt T3.ρ i p d') := e3.2
  obtain ⟨ky, dy⟩ := y
  unfold subK at e4
  split at e4
  · rename_i j p ds k0 eq
    cases eq
    obtain ⟨jj, ej, e4⟩ := optK_of e4
    obtain ⟨a, xs, rfl, ha, hx, ga, ll⟩ := hr3.lstO ok3
    obtain ⟨U, okU, tU, cU, uσ, uH, uρ, uG⟩ := lst_put ok3 ll (hx.set jj hv3)
    refine .inl ⟨a, xs, k0, jj, rfl, hy.int_inv ok3, ha, by rw [hx.len]; exact ej, ?_⟩
    have z := l3.nx U (by rw [uρ]; exact e4) okU tU
    rw [uσ, uH] at z
    exact z
  · rename_i j p ds d0 _
    obtain ⟨key, ek, sm, e4⟩ := optK_of e4
    obtain ⟨a, xs, rfl, ha, hx, ga, ll⟩ := hr3.dctO ok3
    obtain ⟨U, okU, tU, cU, uσ, uH, uρ, uG⟩ := dct_put ok3 ll (hx.put (k := key) hv3)
    have hyv := (hy.dt ok3).key ek
    subst hyv
    refine .inr ⟨a, _, rfl, .inl ⟨xs, key, ha, rfl, by rw [hx.len]; exact small_lt sm, rfl⟩, ?_⟩
    have z := l3.nx U (by rw [uρ]; exact e4) okU tU
    rw [uσ, uH] at z
    exact z
  · exact e4.elim
theorem PSet.or {r r' : TSet} (h : PSet X r) (h' : PSet X r') : PSet X (fun o i v H Q => r o i v H Q ∨ r' o i v H Q) := fun pins s σ H o i v ov iv u Q I ro ri rv q => by
  rcases q with q | q
  · exact h pins s σ H o i v ov iv u Q I ro ri rv q
  · exact h' pins s σ H o i v ov iv u Q I ro ri rv q
theorem q_sub {o i e : Expr} {wr wi wv : DE (Kd × D)} {p pos : Pos} (hu : X.A.units + 1 < cLine) (ho : PE X o (te X.K W wr)) (hi : PE X i (te X.K W wi)) (he : PE X e (te X.K W wv)) (hs : swapsWithSole [.Subscript o i p] e pos.line X.env = pure false := by rfl) (hw : swappedStores [.Subscript o i p] e X.env = pure none := by rfl)
    (h1 : (assignEach [.Subscript o i p] X.env).map (·.2) = [assign (.Subscript o i p) X.env] := by rfl)
    (hz : ∀ z, assign (.Subscript o i p) X.env z = (do let a ← holding [z] (eval o X.env); let b ← holding [z, a] (eval i X.env); standAt p; holding [z, a, b] (setItem a b z); release [z, a, b] []) := by intro _; rfl) : PS X (.Assign [.Subscript o i p] e pos) (ts X.K W (wSub wv wr wi)) := PS.imp (ps_asg he (pg_sub ho hi (PSet.or set_list (set_dict hu)) hz) hs hw h1) fun _ _ _ h => ts_sub h
end
end VL

namespace VL
open PySem PySem.Spec PyProof.Rows L2
section
variable {K : PySem.W.Frag} {W : WX} {G G' H H' H0 : Hp} {σ : L2.St} {ρ : Rho} {f f' : Own} {pin : Nat → Option V} {X : Cx} {S S0 S1 T T1 T2 U : Sta} {E : En} {Z : Ends}
/-! ### a method of one's own class: the exceptions by the slots -/
def tMethW (C : Addr) (m : Str) (sp : Sp) (dvs : List V) (EX : L2.St → XK) (ta : TE) (t : TA) : TE := fun σ H Q => ta σ H fun x H1 => ∃ a dx fs, x = .ref a ∧ H1 a = some (.ins C dx fs) ∧ fs.lookup m = none ∧ t σ H1 fun vs H2 => sp (x :: (vs ++ dvs)) H2 Q (EX σ)
def tMakeW (C : Addr) (sp : Sp) (dvs : List V) (EX : L2.St → XK) (t : TA) : TE := fun σ H Q => t σ H fun vs H1 => ∀ x dx, H1 x = none → H1 dx = none → dx ≠ x →
  sp (.ref x :: (vs ++ dvs)) (upd (upd H1 dx (.own x)) x (.ins C dx [])) (fun v H2 => v = .non ∧ Q (.ref x) H2) (EX σ)
section
variable {CX : CXT} {k : Nat} {fa C : Addr} {fd : FuncData} {ps : List Str} {sp : Sp} {dvs : List V} {dvl : List Value} {EX : L2.St → XK} {x m : Str} {p pos apos : Pos} {e o : Expr} {es : List Expr} {tr : TE} {t : TA}
theorem run_makeW {pins : List (Addr × Obj)} {s : Shared} {Q : VK} {us : List Value} {vs : List V} (M : Mk X.K C fa) (F : FnOk X.prog X.w X.K X.mg X.base CX k fa fd ps sp) (hr : Room (k + 1) X.A) (hb : Binds X.K fd ps dvl) (hd : Vals dvs dvl)
    (hx : PassesAt CX X σ (EX σ)) (I : Inv X pins σ H s) (r : Vals vs us) (h : ∀ x dx, H x = none → H dx = none → dx ≠ x → sp (.ref x :: (vs ++ dvs)) (upd (upd H dx (.own x)) x (.ins C dx [])) (fun v H2 => v = .non ∧ Q (.ref x) H2) (EX σ)) :
    wpAny (model X.prog X.w) X.A (call (.ref C) us) (EP X pins σ Q) X.xe s := by
  have hq := h (s.heap.objs.size + 1) s.heap.objs.size (I.hok.fresh (Nat.le_succ _)) (I.hok.fresh (Nat.le_refl _)) (Nat.ne_of_lt (Nat.lt_succ_self _))
  have J := Inv.made (C := C) I
  have rr : Vals (V.ref (s.heap.objs.size + 1) :: (vs ++ dvs)) (Value.ref (s.heap.objs.size + 1) :: (us ++ dvl)) := .cons rfl (r.append hd)
  have hl : (Value.ref (s.heap.objs.size + 1) :: us ++ dvl).length = ps.length := by
    have e := rr.length
    rw [F.len _ _ _ _ hq] at e
    exact e.symm
  refine wpAny_call (make_map (f := fa) I.kIn M.makes M.init (beq_iff_eq.mp M.fn) (codeAny_mono (F.run _ X.stack _ _ ⟨Value.ref (s.heap.objs.size + 1) :: us, []⟩ (Value.ref (s.heap.objs.size + 1) :: (us ++ dvl)) _ _ (EX σ) (hr.make C us []) (J.env0.make C us []) (hb _ (Value.ref (s.heap.objs.size + 1) :: us) J.kIn hl) rr hq) fun w s' hw => ?_))
  cases w with
  | error e => exact hx pins _ _ e s' J hw
  | ok fl =>
    cases fl with
    | ret u =>
      obtain ⟨v, H', I3, rv, ev, q3⟩ := J.after hw
      subst ev
      exact ⟨rv, ⟨V.ref (s.heap.objs.size + 1), H', I3, rfl, q3⟩⟩
    | next => exact False.elim hw
    | brk => exact False.elim hw
    | cont => exact False.elim hw
theorem pe_makeW (M : Mk X.K C fa) (F : FnOk X.prog X.w X.K X.mg X.base CX k fa fd ps sp) (hr : Room (k + 1) X.A) (hg : Gl X x) (hm : X.mg x = some (.ref C)) (hb : Binds X.K fd ps dvl) (hd : Vals dvs dvl) (hx : ∀ σ, PassesAt CX X σ (EX σ))
    (ha : PA X (e :: es) t) (hdb : (x == ("__debug__" : Str)) = false := by decide) (he : starEach (e :: es) X.env = (false, eval e X.env) :: starEach es X.env := by rfl) (hpl : (backTo pos (starEach es X.env)).any (·.1) = false := by rfl) :
    PE X (.Call (.Name x p) (e :: es) [] pos) (tMakeW C sp dvs EX t) := by
  refine ⟨fun pins s σ H Q I h => ?_⟩
  refine wpAny_Call_Name_kw (ld_glob I hg hm ?_ hdb)
  refine PySem.W.callWith_K (h₀ := X.base) I.ok.mod.kin M.kp (thn (ha.run pos pins s σ H _ I h) fun us s1 ⟨vs, H1, I1, r, q⟩ => ⟨I1.kIn, ?_⟩) he hpl
  exact run_makeW M F hr hb hd (hx σ) I1 r q
end
/-- the receiver: an instance of C that has no field m -/
def objOk (C : Addr) (m : Str) (d : D) : Prop := match d with
  | .obj C' fs => C' = C ∧ (fs.map (·.1)).contains m = false
  | _ => False
theorem Has.obj (ok : T.ok K) {x : Kd × D} {v : V} {C : Addr} {m : Str} (h : Has K S0 T x.1 v x.2) (e : objOk C m x.2) : ∃ a dx fs, v = .ref a ∧ T.H a = some (.ins C dx fs) ∧ fs.lookup m = none := by
  obtain ⟨kd, d⟩ := x
  have q := h.dt ok
  cases d with
  | obj C' fs =>
    obtain ⟨rfl, e⟩ := e
    cases q with
    | obj hG n hf => exact ⟨_, _, _, rfl, hG, lookup_out (by rw [hf.names]; simpa using e)⟩
  | _ => exact e.elim
def wMeth (C : Addr) (m : Str) (ms : List Md) (Wf : DF) (dfl : List D) (wr : DE (Kd × D)) (wa : DE (List (Kd × D))) : DE (Kd × D) := fun ρ P => wr ρ ⟨fun p1 x ρ1 => objOk C m x.2 ∧ wa ρ1 ⟨fun p2 xs ρ2 => hold x.1 p2 = true ∧ callK ms Wf (p1 ++ p2) (x :: (xs ++ dfl.map fun d => (.fz, d))) ρ2 P, P.ex⟩, P.ex⟩
/-- C(..) -/
def headK (d' : List D) (q : D → Prop) : Prop := match d' with
  | d :: _ => q d
  | [] => False
def wMake (C : Addr) (n : Nat) (fm : List Md) (Wf : DF) (dfl : List D) (wa : DE (List (Kd × D))) : DE (Kd × D) := fun ρ P => wa ρ ⟨fun p xs ρ1 => (allFz xs = true ∧ xs.length + dfl.length = n) ∧ Wf (.obj C [] :: (xs.map (·.2) ++ dfl)) ⟨fun z ds' => isN z.2 = true ∧ headK ds' fun d => P.ok p (.new (.O fm), d) ρ1, fun C fl _ => P.ex C fl ρ1⟩, P.ex⟩
def mkMs (fm : List Md) (n : Nat) : List Md := .P (.O fm) :: List.replicate n .F
theorem make_state {C : Addr} {fm : List Md} {n : Nat} {Wf : DF} {ds : List D} {vs : List V} {x dx : Addr} {P : Pf} {Q : VK} {EX : XK} (ok : T.ok K) (hv : DtA K T.G vs ds) (hn : ds.length = n) (hx : T.H x = none) (hdx : T.H dx = none) (ne : dx ≠ x) (w : Wf (.obj C [] :: ds) P)
    (k : ∀ z ds' (d : D) (U : Sta), P.ok z ds' → ds'.head? = some d → U.σ = T.σ → U.ρ = T.ρ → U.ok K → T.to U → Tch [] T U → Has K T U (.new (.O fm)) (.ref x) d → isN z.2 = true → Q (.ref x) U.H)
    (kn : ∀ z ds', P.ok z ds' → isN z.2 = true)
    (ex : ∀ C fl ds' (U : Sta), P.ex C fl ds' → U.σ = T.σ → U.ρ = T.ρ → U.ok K → T.to U → ∀ dd : Option Addr, XD K U.G U.H dd fl → EX (.ref C) dd U.H) :
    spV K (mkMs [] n) (mkMs fm n) Wf (.ref x :: vs) (upd (upd T.H dx (.own x)) x (.ins C dx [])) (fun v H2 => v = .non ∧ Q (.ref x) H2) EX := by
  have hx1 : upd T.H dx (.own x) x = none := by rw [upd_ne (Ne.symm ne)]; exact hx
  have e1 : Ex T.H (upd T.H dx (.own x)) := Ex.new hdx
  have e2 : Ex T.H (upd (upd T.H dx (.own x)) x (.ins C dx [])) := e1.trans (Ex.new hx1)
  have gx : T.G x = none := ok.ext.free hx
  have nx : ¬ Ow T.f x := fun z => ok.own z hx
  have get : ∀ {fm' : List Md} {d0 : D} {ds1 : List D} (i : Nat) (m : Md) (d : D), (zr (mkMs fm' n) (d0 :: ds1))[i]? = some (some (m, d)) → (i = 0 ∧ m = .P (.O fm') ∧ d = d0) ∨ ∃ j, i = j + 1 ∧ m = .F ∧ ds1[j]? = some d := fun {fm' d0 ds1} i m d e => by
    obtain ⟨q1, q2⟩ := zr_get.mp e
    cases i with
    | zero =>
      simp [mkMs] at q1 q2
      exact .inl ⟨rfl, q1.symm, q2.symm⟩
    | succ j =>
      have q1 : (List.replicate n Md.F)[j]? = some m := by simpa [mkMs] using q1
      rw [List.getElem?_replicate] at q1
      split at q1
      · cases q1; exact .inr ⟨j, rfl, rfl, by simpa using q2⟩
      · cases q1
  have okA : Sx K (fun i => (V.ref x :: vs)[i]?) T.G (upd (upd T.H dx (.own x)) x (.ins C dx [])) ((V.ref x :: vs).map some) (zr (mkMs [] n) (.obj C [] :: ds)) (fun i => if i = 0 then [x] else []) := {
    ext := ok.ext.trans e2
    len := by
      rw [zr_len (by simp [mkMs, hn])]
      simp [mkMs, hv.len, hn]
    slot := fun i m d e => by
      rcases get i m d e with ⟨rfl, rfl, rfl⟩ | ⟨j, rfl, rfl, q⟩
      · exact ⟨.ref x, rfl, .P (.O upd_same List.nodup_nil .nil)⟩
      · obtain ⟨v, h1, h2⟩ := hv.get q
        exact ⟨v, by simp [h1], .F h2⟩
    emp := fun i e => by
      cases i with
      | zero => exact absurd rfl (e _ _)
      | succ j => rfl
    nd := fun i => by
      by_cases c : i = 0
      · simp [c]
      · simp [c]
    dj := fun i j a h h' => by
      by_cases c : i = 0
      · by_cases c' : j = 0
        · rw [c, c']
        · simp [c'] at h'
      · simp [c] at h
    out := fun i a h => by
      by_cases c : i = 0
      · simp [c] at h; rw [h]; exact gx
      · simp [c] at h
    pins := fun i m d e => by
      rcases get i _ d e with ⟨rfl, _, rfl⟩ | ⟨j, rfl, q, _⟩
      · exact ⟨.ref x, rfl, rfl⟩
      · cases q }
  have back : ∀ {ds' : List D} (B : Sta), ds'.length = (mkMs fm n).length → B.σ = (V.ref x :: vs).map some → B.ρ = zr (mkMs fm n) ds' → B.ok K → Sta.to ⟨fun i => (V.ref x :: vs)[i]?, T.G, upd (upd T.H dx (.own x)) x (.ins C dx []), (V.ref x :: vs).map some, zr (mkMs [] n) (.obj C [] :: ds), fun i => if i = 0 then [x] else []⟩ B →
      ∃ d, ds'.head? = some d ∧ Sta.ok K ⟨T.pin, B.G, B.H, T.σ, T.ρ, T.f⟩ ∧ T.to ⟨T.pin, B.G, B.H, T.σ, T.ρ, T.f⟩ ∧ Tch [] T ⟨T.pin, B.G, B.H, T.σ, T.ρ, T.f⟩ ∧ Has K T ⟨T.pin, B.G, B.H, T.σ, T.ρ, T.f⟩ (.new (.O fm)) (.ref x) d := fun {ds'} B hl bσ bρ okB tB => by
    have nA : ∀ a, T.H a ≠ none → ¬ Ow (fun i => if i = 0 then [x] else []) a := fun a ha ⟨i, hi⟩ => by
      by_cases c : i = 0
      · simp [c] at hi; exact ha (hi ▸ hx)
      · simp [c] at hi
    have keep : ∀ a o, T.H a = some o → B.H a = some o := fun a o ho => tB.stp.keep a o (e2 a o ho) (nA a (by rw [ho]; exact fun z => nomatch z))
    have gold : ∀ a, T.H a ≠ none → B.G a = T.G a := fun a ha => tB.stp.gold a (e2.trk ha) (nA a ha)
    cases ds' with
    | nil => simp [mkMs] at hl
    | cons d ds' =>
      have r0 : B.ρ[0]? = some (some (.P (.O fm), d)) := by rw [bρ]; rfl
      obtain ⟨v, h1, r⟩ := okB.slot 0 _ _ r0
      rw [bσ] at h1
      cases h1
      have r' := r.strip
      refine ⟨d, rfl, ?_, ⟨⟨tB.stp.gext, fun a o ho _ => keep a o ho, fun a ha _ => gold a ha, fun a h => .inl h, fun a ha => ?_⟩, rfl⟩, fun i _ => ⟨rfl, rfl, fun a _ o ho => keep a o ho⟩, B.f 0, r', okB.nd 0, fun a ha => ⟨okB.out 0 a ha, ?_⟩⟩
      · exact {
          ext := okB.ext
          len := ok.len
          slot := fun i m d e => by
            obtain ⟨v, q1, q2⟩ := ok.slot i m d e
            exact ⟨v, q1, q2.keep tB.stp.gext fun a _ o ho => keep a o ho⟩
          emp := ok.emp
          nd := ok.nd
          dj := ok.dj
          out := fun i a h => by
            show B.G a = none
            rw [gold a (ok.own ⟨i, h⟩)]
            exact ok.out i a h
          pins := ok.pins }
      · cases e : T.H a with
        | none => exact absurd e ha
        | some o => rw [show B.H a = some o from keep a o e]; exact fun z => nomatch z
      · have na : T.H a = none := by
          rcases tB.stp.fnew a ⟨0, ha⟩ with ⟨i, hi⟩ | z
          · by_cases c : i = 0
            · simp [c] at hi; rw [hi]; exact hx
            · simp [c] at hi
          · have z : upd (upd T.H dx (.own x)) x (.ins C dx []) a = none := z
            cases e : T.H a with
            | none => rfl
            | some o => rw [e2 a o e] at z; cases z
        exact ⟨fun z => ok.own z na, .inr na⟩
  refine ⟨⟨fun i => (V.ref x :: vs)[i]?, T.G, upd (upd T.H dx (.own x)) x (.ins C dx []), (V.ref x :: vs).map some, zr (mkMs [] n) (.obj C [] :: ds), fun i => if i = 0 then [x] else []⟩, .obj C [] :: ds, P, rfl, rfl, rfl, by simp [mkMs, hv.len, hn], by simp [mkMs, hn], rfl, okA, w, fun z ds' B qz hl bσ bρ okB tB _ v hz => ?_, fun C fl ds' B qz hl bσ bρ okB tB dd hd => ?_⟩
  · obtain ⟨d, e1, okU, tU, cU, hU⟩ := back B hl bσ bρ okB tB
    refine ⟨(hz.dt okB).non_of (kn z ds' qz), k z ds' d ⟨T.pin, B.G, B.H, T.σ, T.ρ, T.f⟩ qz e1 rfl rfl okU tU cU hU (kn z ds' qz)⟩
  · obtain ⟨d, e1, okU, tU, cU, hU⟩ := back B hl bσ bρ okB tB
    exact ex C fl ds' ⟨T.pin, B.G, B.H, T.σ, T.ρ, T.f⟩ qz rfl rfl okU tU dd hd
theorem te_make {C : Addr} {n : Nat} {fm : List Md} {Wf : DF} {dfl : List D} {dvs : List V} {wa : DE (List (Kd × D))} {Q : VK} (hd : ∀ G, DtA K G dvs dfl) (h : te K W (wMake C n fm Wf dfl wa) σ H Q) : tMakeW C (spV K (mkMs [] n) (mkMs fm n) Wf) dvs (WE W) (ta K W wa) σ H Q := by
  obtain ⟨S, P, rfl, rfl, ok, w, k, ex⟩ := h
  refine ⟨S, _, rfl, rfl, ok, w, fun p xs T w1 e1 ok1 t1 pr1 vs h1 x dx hx hdx ne => ?_, ex⟩
  obtain ⟨⟨fz, hl⟩, w1⟩ := w1
  refine make_state ok1 ((h1.fzs fz).append (hd T.G)) (by simpa using hl) hx hdx ne w1 (fun z ds' d U q e eσ eρ okU tU cU hU hz => ?_) (fun z ds' q => q.1) (fun C fl ds' U q eσ eρ okU tU dd hdd => ?_)
  · have q2 := q.2
    cases ds' with
    | nil => exact q2.elim
    | cons d0 ds' =>
      cases e
      exact k _ _ U (by rw [eρ]; exact q2) (eσ.trans e1) okU (t1.trans tU) (pr1.add cU) _ (hU.from t1)
  · exact ex C fl U (by rw [eρ]; exact q) (eσ.trans e1) okU (t1.trans tU) dd hdd
section
variable {k : Nat} {fa C : Addr} {fd : FuncData} {ps : List Str} {ms : List Md} {Wf : DF} {x m : Str} {p pos apos : Pos} {o e : Expr} {es : List Expr} {wr : DE (Kd × D)} {wa : DE (List (Kd × D))} {n : Nat} {fm : List Md}
theorem q_make (M : Mk X.K C fa) (F : FnOk X.prog X.w X.K X.mg X.base (L2.CX X.prog X.w) k fa fd ps (spV X.K (mkMs [] n) (mkMs fm n) Wf)) (hr : Room (k + 1) X.A) (hm : X.mg x = some (.ref C)) (hb : Binds X.K fd ps []) (tk : Takes X W)
    (ha : PA X (e :: es) (ta X.K W wa)) (hg : Gl X x := by rfl) (hdb : (x == ("__debug__" : Str)) = false := by decide) (he : starEach (e :: es) X.env = (false, eval e X.env) :: starEach es X.env := by rfl) (hpl : (backTo pos (starEach es X.env)).any (·.1) = false := by rfl) :
    PE X (.Call (.Name x p) (e :: es) [] pos) (te X.K W (wMake C n fm Wf [] wa)) := PE.imp (pe_makeW M F hr hg hm hb .nil (fun σ => passAt tk σ) ha hdb he hpl) fun _ _ _ h => te_make (fun _ => .nil) h
end
/-! ### a module's constants -/
end
end VL

namespace VL
open PySem PySem.Spec PyProof.Rows L2
/-! ### the readings, run by simp from the head -/
section
variable {ρ : Rho} {P : Po (Kd × D)} {PB : Po Bool} {PA' : Po (List (Kd × D))} {PL : Po (List D)} {PO' : Po (Option Int)} {E : En}
def slotK (ρ : Rho) (i : Nat) (q : Md → D → Prop) : Prop := match ρ[i]? with
  | some (some (m, d)) => q m d
  | _ => False
@[simp ↓] theorem slotK_0 {m : Md} {d : D} {q : Md → D → Prop} : slotK (some (m, d) :: ρ) 0 q = q m d := rfl
@[simp ↓] theorem slotK_n {q : Md → D → Prop} : slotK (none :: ρ) 0 q = False := rfl
@[simp ↓] theorem slotK_s {x : Option (Md × D)} {i : Nat} {q : Md → D → Prop} : slotK (x :: ρ) (i + 1) q = slotK ρ i q := by simp [slotK]
def stK (i : Nat) (md : Md × D) (ρ : Rho) (q : Rho → Prop) : Prop := okSlot ρ i = true ∧ q (ρ.set i (some md))
@[simp ↓] theorem stK_n {md : Md × D} {q : Rho → Prop} : stK 0 md (none :: ρ) q = q (some md :: ρ) := by simp [stK, okSlot]
@[simp ↓] theorem stK_F {d : D} {md : Md × D} {q : Rho → Prop} : stK 0 md (some (.F, d) :: ρ) q = q (some md :: ρ) := by simp [stK, okSlot]
@[simp ↓] theorem stK_L {m : Md} {d : D} {md : Md × D} {q : Rho → Prop} : stK 0 md (some (.L m, d) :: ρ) q = q (some md :: ρ) := by simp [stK, okSlot]
@[simp ↓] theorem stK_K {d : D} {md : Md × D} {q : Rho → Prop} : stK 0 md (some (.K, d) :: ρ) q = q (some md :: ρ) := by simp [stK, okSlot]
@[simp ↓] theorem stK_O {ms : List Md} {d : D} {md : Md × D} {q : Rho → Prop} : stK 0 md (some (.O ms, d) :: ρ) q = q (some md :: ρ) := by simp [stK, okSlot]
@[simp ↓] theorem stK_s {x : Option (Md × D)} {i : Nat} {md : Md × D} {q : Rho → Prop} : stK (i + 1) md (x :: ρ) q = stK i md ρ (fun ρ' => q (x :: ρ')) := by simp [stK, okSlot]
def ifK (b : Bool) (A B : Prop) : Prop := if b = true then A else B
@[simp ↓] theorem ifK_t {A B : Prop} : ifK true A B = A := rfl
@[simp ↓] theorem ifK_f {A B : Prop} : ifK false A B = B := rfl
@[simp ↓] theorem ifK_d {p : Prop} [Decidable p] {A B : Prop} : ifK (decide p) A B = if p then A else B := by simp [ifK]
@[simp ↓] theorem ifK_not {b : Bool} {A B : Prop} : ifK (!b) A B = ifK b B A := by cases b <;> rfl
@[simp ↓] theorem ifK_isN {d : D} {A B : Prop} : ifK (isN d) A B = if isN d = true then A else B := rfl
def blK (d : D) (q : Bool → Prop) : Prop := match d with
  | .bl b => q b
  | _ => False
@[simp ↓] theorem blK_b {b : Bool} {q : Bool → Prop} : blK (.bl b) q = q b := rfl
@[simp ↓] theorem optK_s {α : Type} {a : α} {q : α → Prop} : optK (some a) q = q a := rfl
@[simp ↓] theorem optK_n {α : Type} {q : α → Prop} : optK (none : Option α) q = False := rfl
@[simp ↓] theorem intK_i {i j : Int} {q : Int → Int → Prop} : intK (.int i) (.int j) q = q i j := rfl
/-! expressions -/
@[simp ↓] theorem wVar_eq {i : Nat} : wVar i ρ P = slotK ρ i fun m d => P.ok [] (kAt i [] m.st, d) ρ := by
  unfold wVar slotK
  cases ρ[i]? with
  | none => rfl
  | some x => cases x <;> rfl
theorem okSlot_of : ∀ {ρ : Rho} {i : Nat} {m : Md} {d : D}, ρ[i]? = some (some (m, d)) → notP m = true → okSlot ρ i = true
  | [], _, _, _, e, _ => by simp at e
  | x :: _, 0, m, d, e, h => by
    simp at e
    subst e
    cases m <;> first | rfl | cases h
  | _ :: ρ, i + 1, m, d, e, h => okSlot_of (ρ := ρ) (by simpa using e) h
@[simp ↓] theorem wFrz_eq {i : Nat} : wFrz i ρ P = slotK ρ i fun m d => notP m = true ∧ stK i (.F, d) ρ fun ρ' => P.ok [i] (.fz, d) ρ' := by
  unfold wFrz slotK
  cases e : ρ[i]? with
  | none => rfl
  | some x =>
    cases x with
    | none => rfl
    | some md =>
      obtain ⟨m, d⟩ := md
      exact propext ⟨fun h => ⟨h.1, okSlot_of e h.1, h.2⟩, fun h => ⟨h.1, h.2.2⟩⟩
@[simp ↓] theorem wMov_eq {i : Nat} : wMov i ρ P = slotK ρ i fun m d => notP m = true ∧ P.ok [i] (.new m, d) (ρ.set i none) := by
  unfold wMov slotK
  cases ρ[i]? with
  | none => rfl
  | some x => cases x <;> rfl
@[simp ↓] theorem wC_eq {d : D} : wC d ρ P = P.ok [] (.fz, d) ρ := rfl
@[simp ↓] theorem wOp_eq {o : O2} {a b : DE (Kd × D)} : wOp o a b ρ P = a ρ ⟨fun p1 x ρ1 => b ρ1 ⟨fun p2 y ρ2 => hold x.1 p2 = true ∧ o x y fun z => P.ok (p1 ++ p2) z ρ2, P.ex⟩, P.ex⟩ := rfl
@[simp ↓] theorem wUn_eq {o : O1} {a : DE (Kd × D)} : wUn o a ρ P = a ρ ⟨fun p1 x ρ1 => o x fun z => P.ok p1 z ρ1, P.ex⟩ := rfl
@[simp ↓] theorem wCB_eq {o : OL} {a : DE (List (Kd × D))} : wCB o a ρ P = a ρ ⟨fun p1 x ρ1 => o x fun z => P.ok p1 z ρ1, P.ex⟩ := rfl
@[simp ↓] theorem wFz_eq {w : DE (Kd × D)} : wFz w ρ P = w ρ ⟨fun p x ρ' => P.ok p (x.1.frz, x.2) ρ', P.ex⟩ := rfl
@[simp ↓] theorem wNil_eq : wNil ρ PA' = PA'.ok [] [] ρ := rfl
@[simp ↓] theorem wCons_eq {a : DE (Kd × D)} {r : DE (List (Kd × D))} : wCons a r ρ PA' = a ρ ⟨fun p1 x ρ1 => r ρ1 ⟨fun p2 xs ρ2 => hold x.1.frz p2 = true ∧ PA'.ok (p1 ++ p2) ((x.1.frz, x.2) :: xs) ρ2, PA'.ex⟩, PA'.ex⟩ := rfl
@[simp ↓] theorem wTup_eq {a : DE (List (Kd × D))} : wTup a ρ P = a ρ ⟨fun p xs ρ' => (allFz xs = true ∧ small xs.length = true) ∧ P.ok p (.fz, .tup (xs.map (·.2))) ρ', P.ex⟩ := rfl
@[simp ↓] theorem wLst_eq {a : DE (List (Kd × D))} : wLst a ρ P = a ρ ⟨fun p xs ρ' => (allFz xs = true ∧ small xs.length = true) ∧ P.ok p (.new (.L .F), .lst (xs.map (·.2))) ρ', P.ex⟩ := rfl
@[simp ↓] theorem wDic_eq : wDic ρ P = P.ok [] (.new .K, .dct []) ρ := rfl
@[simp ↓] theorem wT_eq {w : DE (Kd × D)} : wT w ρ PB = w ρ ⟨fun p x ρ' => blK x.2 fun b => PB.ok p b ρ', PB.ex⟩ := by
  unfold wT
  congr 2
@[simp ↓] theorem wAnd_eq {a b : DE Bool} : wAnd a b ρ PB = a ρ ⟨fun p1 c ρ1 => ifK c (b ρ1 ⟨fun p2 c2 ρ2 => PB.ok (p1 ++ p2) c2 ρ2, PB.ex⟩) (PB.ok p1 false ρ1), PB.ex⟩ := by
  unfold wAnd
  congr 2
  funext p c ρ'
  cases c <;> rfl
@[simp ↓] theorem wOr_eq {a b : DE Bool} : wOr a b ρ PB = a ρ ⟨fun p1 c ρ1 => ifK c (PB.ok p1 true ρ1) (b ρ1 ⟨fun p2 c2 ρ2 => PB.ok (p1 ++ p2) c2 ρ2, PB.ex⟩), PB.ex⟩ := by
  unfold wOr
  congr 2
  funext p c ρ'
  cases c <;> rfl
@[simp ↓] theorem wNot_eq {a : DE Bool} : wNot a ρ PB = a ρ ⟨fun p1 c ρ1 => PB.ok p1 (!c) ρ1, PB.ex⟩ := rfl
@[simp ↓] theorem wAndV_eq {a b : DE (Kd × D)} : wAndV a b ρ P = a ρ ⟨fun p1 x ρ1 => blK x.2 fun c => ifK c (b ρ1 ⟨fun p2 c2 ρ2 => P.ok (p1 ++ p2) c2 ρ2, P.ex⟩) (P.ok p1 (.fz, .bl false) ρ1), P.ex⟩ := by
  unfold wAndV
  congr 2
  funext p x ρ'
  obtain ⟨k, d⟩ := x
  cases d with
  | bl b => cases b <;> rfl
  | _ => rfl
@[simp ↓] theorem wOrV_eq {a b : DE (Kd × D)} : wOrV a b ρ P = a ρ ⟨fun p1 x ρ1 => blK x.2 fun c => ifK c (P.ok p1 (.fz, .bl true) ρ1) (b ρ1 ⟨fun p2 c2 ρ2 => P.ok (p1 ++ p2) c2 ρ2, P.ex⟩), P.ex⟩ := by
  unfold wOrV
  congr 2
  funext p x ρ'
  obtain ⟨k, d⟩ := x
  cases d with
  | bl b => cases b <;> rfl
  | _ => rfl
@[simp ↓] theorem wNotV_eq {a : DE (Kd × D)} : wNotV a ρ P = a ρ ⟨fun p1 x ρ1 => blK x.2 fun c => P.ok p1 (.fz, .bl (!c)) ρ1, P.ex⟩ := by
  unfold wNotV
  congr 2
@[simp ↓] theorem wIf_eq {t : DE Bool} {a b : DE (Kd × D)} : wIf t a b ρ P = t ρ ⟨fun p1 c ρ1 => ifK c (a ρ1 ⟨fun p2 x ρ2 => P.ok (p1 ++ p2) x ρ2, P.ex⟩) (b ρ1 ⟨fun p2 x ρ2 => P.ok (p1 ++ p2) x ρ2, P.ex⟩), P.ex⟩ := by
  unfold wIf
  congr 2
  funext p c ρ'
  cases c <;> rfl
@[simp ↓] theorem wChain_eq {o o' : O2} {a b c : DE (Kd × D)} : wChain o o' a b c ρ P = a ρ ⟨fun p1 x ρ1 => b ρ1 ⟨fun p2 y ρ2 => hold x.1 p2 = true ∧ o x y fun z => blK z.2 fun t => ifK t (c ρ2 ⟨fun p3 u ρ3 => hold y.1 p3 = true ∧ o' y u fun z => P.ok (p1 ++ p2 ++ p3) z ρ3, P.ex⟩) (P.ok (p1 ++ p2) (.fz, .bl false) ρ2), P.ex⟩, P.ex⟩ := by
  unfold wChain
  congr 2
  funext p x ρ'
  congr 2
  funext p' y ρ''
  congr 2
  funext z
  obtain ⟨k, d⟩ := z
  cases d with
  | bl b => cases b <;> rfl
  | _ => rfl
@[simp ↓] theorem wYes_eq : wYes ρ PB = PB.ok [] true ρ := rfl
/-! statements -/
@[simp ↓] theorem wNext_eq : wNext E ρ = E.nx ρ := rfl
@[simp ↓] theorem wSeq_eq {a b : DS} : wSeq a b E ρ = a { E with nx := b E } ρ := rfl
@[simp ↓] theorem wBreak_eq : wBreak E ρ = E.bk ρ := rfl
@[simp ↓] theorem wCont_eq : wCont E ρ = E.ct ρ := rfl
@[simp ↓] theorem wDrop_eq {we : DE (Kd × D)} : wDrop we E ρ = we ρ ⟨fun _ _ ρ' => E.nx ρ', E.ex⟩ := rfl
@[simp ↓] theorem wRet_eq {we : DE (Kd × D)} : wRet we E ρ = we ρ ⟨fun _ x ρ' => E.rt x ρ', E.ex⟩ := rfl
@[simp ↓] theorem wRetN_eq : wRetN E ρ = E.rt (.fz, .non) ρ := rfl
@[simp ↓] theorem wIfS_eq {c : DE Bool} {a b : DS} : wIfS c a b E ρ = c ρ ⟨fun _ k ρ' => ifK k (a E ρ') (b E ρ'), E.ex⟩ := by
  unfold wIfS
  congr 2
  funext p k ρ'
  cases k <;> rfl
@[simp ↓] theorem wNever_eq : wNever E ρ = False := rfl
def storeK (i : Nat) (x : Kd × D) (ρ : Rho) (q : Rho → Prop) : Prop := match x.1 with
  | .fz => stK i (.F, x.2) ρ q
  | .new m => notP m = true ∧ stK i (m, x.2) ρ q
  | .bor _ _ _ => False
@[simp ↓] theorem storeK_fz {i : Nat} {d : D} {q : Rho → Prop} : storeK i (.fz, d) ρ q = stK i (.F, d) ρ q := rfl
@[simp ↓] theorem storeK_L {i : Nat} {m : Md} {d : D} {q : Rho → Prop} : storeK i (.new (.L m), d) ρ q = stK i (.L m, d) ρ q := by simp [storeK, notP]
@[simp ↓] theorem storeK_K {i : Nat} {d : D} {q : Rho → Prop} : storeK i (.new .K, d) ρ q = stK i (.K, d) ρ q := by simp [storeK, notP]
@[simp ↓] theorem storeK_O {i : Nat} {ms : List Md} {d : D} {q : Rho → Prop} : storeK i (.new (.O ms), d) ρ q = stK i (.O ms, d) ρ q := by simp [storeK, notP]
@[simp ↓] theorem storeK_F {i : Nat} {d : D} {q : Rho → Prop} : storeK i (.new .F, d) ρ q = stK i (.F, d) ρ q := by simp [storeK, notP]
@[simp ↓] theorem wSet_eq {i : Nat} {we : DE (Kd × D)} : wSet i we E ρ = we ρ ⟨fun _ x ρ' => storeK i x ρ' E.nx, E.ex⟩ := by
  unfold wSet
  congr 2
  funext p x ρ'
  obtain ⟨k, d⟩ := x
  cases k with
  | fz => rfl
  | bor j q m => simp [putK, storeK]
  | new m => simp only [putK, storeK, stK, eq_iff_iff]; exact ⟨fun ⟨a, b, c⟩ => ⟨b, a, c⟩, fun ⟨b, a, c⟩ => ⟨a, b, c⟩⟩
@[simp ↓] theorem wAug_eq {i : Nat} {o : O2} {we : DE (Kd × D)} : wAug i o we E ρ = wSet i (wOp o (wVar i) we) E ρ := rfl
@[simp ↓] theorem wgN_eq {i : Nat} {d : D} {q : Rho → Prop} : wgN i d ρ q = stK i (.F, d) ρ q := rfl
@[simp ↓] theorem wgNil_eq {q : Rho → Prop} : wgNil [] ρ q = q ρ := rfl
@[simp ↓] theorem wgCons_eq {a : DG} {b : DGs} {d : D} {ds : List D} {q : Rho → Prop} : wgCons a b (d :: ds) ρ q = a d ρ fun ρ' => b ds ρ' q := rfl
@[simp ↓] theorem wgTup_eq {n : Nat} {a : DGs} {ds : List D} {q : Rho → Prop} : wgTup n a (.tup ds) ρ q = (ds.length = n ∧ a ds ρ q) := rfl
def fzK (x : Kd × D) (q : D → Prop) : Prop := match x.1 with
  | .fz => q x.2
  | _ => False
@[simp ↓] theorem fzK_f {d : D} {q : D → Prop} : fzK (.fz, d) q = q d := rfl
@[simp ↓] theorem wAsg_eq {we : DE (Kd × D)} {g : DG} : wAsg we g E ρ = we ρ ⟨fun _ x ρ' => fzK (x.1.frz, x.2) fun d => g d ρ' E.nx, E.ex⟩ := by
  unfold wAsg
  rw [wFz_eq]
  congr 2
@[simp ↓] theorem frz_f : Kd.frz .fz = .fz := rfl
@[simp ↓] theorem frz_n {m : Md} : Kd.frz (.new m) = .fz := rfl
@[simp ↓] theorem frz_b {i : Nat} {p : List Nat} {m : Md} : Kd.frz (.bor i p m) = .bor i p m := rfl
@[simp ↓] theorem kAt_F {i : Nat} {p : List Nat} : kAt i p .F = .fz := rfl
@[simp ↓] theorem kAt_L {i : Nat} {p : List Nat} {m : Md} : kAt i p (.L m) = .bor i p (.L m) := rfl
@[simp ↓] theorem kAt_K {i : Nat} {p : List Nat} : kAt i p .K = .bor i p .K := rfl
@[simp ↓] theorem kAt_O {i : Nat} {p : List Nat} {ms : List Md} : kAt i p (.O ms) = .bor i p (.O ms) := rfl
@[simp ↓] theorem st_P {m : Md} : Md.st (.P m) = m.st := rfl
@[simp ↓] theorem st_F : Md.st .F = .F := rfl
@[simp ↓] theorem st_L {m : Md} : Md.st (.L m) = .L m := rfl
@[simp ↓] theorem st_K : Md.st .K = .K := rfl
@[simp ↓] theorem st_O {ms : List Md} : Md.st (.O ms) = .O ms := rfl
@[simp ↓] theorem notP_F : notP .F = true := rfl
@[simp ↓] theorem notP_L {m : Md} : notP (.L m) = true := rfl
@[simp ↓] theorem notP_K : notP .K = true := rfl
@[simp ↓] theorem notP_O {ms : List Md} : notP (.O ms) = true := rfl
@[simp ↓] theorem hold_f {p : List Nat} : hold .fz p = true := rfl
@[simp ↓] theorem hold_n {m : Md} {p : List Nat} : hold (.new m) p = true := rfl
@[simp ↓] theorem hold_b {i : Nat} {q p : List Nat} {m : Md} : (hold (.bor i q m) p = true) = (p.contains i = false) := by simp [hold]
@[simp ↓] theorem allFz_nil : allFz [] = true := rfl
@[simp ↓] theorem allFz_c {d : D} {r : List (Kd × D)} : allFz ((.fz, d) :: r) = allFz r := rfl
@[simp ↓] theorem retK_f : retK .fz = true := rfl
@[simp ↓] theorem retK_n {m : Md} : retK (.new m) = true := rfl
/-! the end of a def -/
@[simp ↓] theorem ends_nx {ms : List Md} {ds : List D} {F : Pf} {ρ : Rho} : (endsOf ms ds F).nx ρ = finK ms ds ρ fun ds' => F.ok (.fz, .non) ds' := rfl
@[simp ↓] theorem ends_rt {ms : List Md} {ds : List D} {F : Pf} {x : Kd × D} {ρ : Rho} : (endsOf ms ds F).rt x ρ = (retK x.1 = true ∧ finK ms ds ρ fun ds' => F.ok x ds') := rfl
@[simp ↓] theorem ends_ex {ms : List Md} {ds : List D} {F : Pf} {C : Addr} {fl : List (Str × D)} {ρ : Rho} : (endsOf ms ds F).ex C fl ρ = finK ms ds ρ fun ds' => F.ex C fl ds' := rfl
@[simp ↓] theorem finK_nil {ds : List D} {ρ : Rho} {q : List D → Prop} : finK [] ds ρ q = q [] := rfl
@[simp ↓] theorem finK_F {ms : List Md} {d : D} {ds : List D} {x : Option (Md × D)} {ρ : Rho} {q : List D → Prop} : finK (.F :: ms) (d :: ds) (x :: ρ) q = finK ms ds ρ fun r => q (d :: r) := by cases x <;> rfl
@[simp ↓] theorem finK_P {m m' : Md} {ms : List Md} {d d' : D} {ds : List D} {ρ : Rho} {q : List D → Prop} : finK (.P m :: ms) (d :: ds) (some (.P m', d') :: ρ) q = (m' = m ∧ finK ms ds ρ fun r => q (d' :: r)) := rfl
@[simp ↓] theorem zr_c {m : Md} {ms : List Md} {d : D} {ds : List D} : zr (m :: ms) (d :: ds) = some (m, d) :: zr ms ds := rfl
@[simp ↓] theorem zr_n {ds : List D} : zr [] ds = [] := by cases ds <;> rfl
/-! operations -/
@[simp ↓] theorem oI_eq {c : Int → Int → Prop} {g : Int → Int → Int} {x y : Kd × D} {q : Kd × D → Prop} : oI c g x y q = intK x.2 y.2 fun i j => c i j ∧ q (.fz, .int (g i j)) := rfl
@[simp ↓] theorem oI0_eq {g : Int → Int → Int} {x y : Kd × D} {q : Kd × D → Prop} : oI0 g x y q = intK x.2 y.2 fun i j => q (.fz, .int (g i j)) := rfl
@[simp ↓] theorem oB0_eq {g : Int → Int → Bool} {x y : Kd × D} {q : Kd × D → Prop} : oB0 g x y q = intK x.2 y.2 fun i j => q (.fz, .bl (g i j)) := rfl
@[simp ↓] theorem oEq_eq {x y : Kd × D} {q : Kd × D → Prop} : oEq x y q = eqK x.2 y.2 fun b => q (.fz, .bl b) := rfl
@[simp ↓] theorem oNe_eq {x y : Kd × D} {q : Kd × D → Prop} : oNe x y q = eqK x.2 y.2 fun b => q (.fz, .bl (!b)) := rfl
section
variable {q : Bool → Prop} {a b : Int} {s t : Str} {c e : Bool}
@[simp ↓] theorem eqK_1 : eqK (.int a) (.int b) q = q (decide (a = b)) := rfl
@[simp ↓] theorem eqK_2 : eqK (.str s) (.str t) q = q (decide (s = t)) := rfl
@[simp ↓] theorem eqK_3 : eqK (.bl c) (.bl e) q = q (decide (c = e)) := rfl
@[simp ↓] theorem eqK_4 : eqK .non .non q = q true := rfl
@[simp ↓] theorem eqK_5 : eqK .non (.int b) q = q false := rfl
@[simp ↓] theorem eqK_6 : eqK (.int a) .non q = q false := rfl
@[simp ↓] theorem eqK_7 : eqK .non (.str t) q = q false := rfl
@[simp ↓] theorem eqK_8 : eqK (.str t) .non q = q false := rfl
@[simp ↓] theorem eqK_9 : eqK (.int a) (.str t) q = q false := rfl
@[simp ↓] theorem eqK_10 : eqK (.str t) (.int a) q = q false := rfl
end
@[simp ↓] theorem oIsN_eq {x y : Kd × D} {q : Kd × D → Prop} : oIsN x y q = (isN y.2 = true ∧ q (.fz, .bl (isN x.2))) := rfl
@[simp ↓] theorem oNotN_eq {x y : Kd × D} {q : Kd × D → Prop} : oNotN x y q = (isN y.2 = true ∧ q (.fz, .bl (!isN x.2))) := rfl
@[simp ↓] theorem isN_n : isN .non = true := rfl
@[simp ↓] theorem isN_i {i : Int} : isN (.int i) = false := rfl
@[simp ↓] theorem isN_b {i : Bool} : isN (.bl i) = false := rfl
@[simp ↓] theorem isN_s {i : Str} : isN (.str i) = false := rfl
@[simp ↓] theorem isN_l {i : List D} : isN (.lst i) = false := rfl
@[simp ↓] theorem isN_t {i : List D} : isN (.tup i) = false := rfl
@[simp ↓] theorem isN_d {i : List (Key × D)} : isN (.dct i) = false := rfl
@[simp ↓] theorem isN_o {C : Addr} {fs : List (Str × D)} : isN (.obj C fs) = false := rfl
@[simp ↓] theorem oAdd_i {k k' : Kd} {a b : Int} {q : Kd × D → Prop} : oAdd (k, .int a) (k', .int b) q = q (.fz, .int (a + b)) := rfl
@[simp ↓] theorem oAdd_s {k k' : Kd} {a b : Str} {q : Kd × D → Prop} : oAdd (k, .str a) (k', .str b) q = (small (a.length + b.length) = true ∧ q (.fz, .str (a ++ b))) := rfl
@[simp ↓] theorem oAdd_t {a b : List D} {q : Kd × D → Prop} : oAdd (.fz, .tup a) (.fz, .tup b) q = (small (a.length + b.length) = true ∧ q (.fz, .tup (a ++ b))) := rfl
@[simp ↓] theorem oAdd_l {k k' : Kd} {a b : List D} {q : Kd × D → Prop} : oAdd (k, .lst a) (k', .lst b) q = lstK (k, .lst a) fun a => lstK (k', .lst b) fun b => small (a.length + b.length) = true ∧ q (.new (.L .F), .lst (a ++ b)) := rfl
@[simp ↓] theorem oMul_i {k k' : Kd} {a b : Int} {q : Kd × D → Prop} : oMul (k, .int a) (k', .int b) q = (CMul a b ∧ q (.fz, .int (a * b))) := rfl
@[simp ↓] theorem oMul_l {k k' : Kd} {a : List D} {n : Int} {q : Kd × D → Prop} : oMul (k, .lst a) (k', .int n) q = lstK (k, .lst a) fun ds => (0 ≤ n ∧ small (ds.length * n.toNat) = true ∧ n < 2 ^ 63) ∧ q (.new (.L .F), .lst (List.replicate n.toNat ds).flatten) := rfl
@[simp ↓] theorem lstK_f {a : List D} {q : List D → Prop} : lstK (.fz, .lst a) q = q a := rfl
@[simp ↓] theorem lstK_b {i : Nat} {p : List Nat} {a : List D} {q : List D → Prop} : lstK (.bor i p (.L .F), .lst a) q = q a := rfl
@[simp ↓] theorem lstK_n {a : List D} {q : List D → Prop} : lstK (.new (.L .F), .lst a) q = q a := rfl
@[simp ↓] theorem itmK_t {a : List D} {q : List D → Prop} : itmK (.fz, .tup a) q = q a := rfl
@[simp ↓] theorem itmK_l {k : Kd} {a : List D} {q : List D → Prop} : itmK (k, .lst a) q = lstK (k, .lst a) q := by cases k <;> rfl
@[simp ↓] theorem dctK_f {a : List (Key × D)} {q : List (Key × D) → Prop} : dctK (.fz, .dct a) q = q a := rfl
@[simp ↓] theorem dctK_b {i : Nat} {p : List Nat} {a : List (Key × D)} {q : List (Key × D) → Prop} : dctK (.bor i p .K, .dct a) q = q a := rfl
@[simp ↓] theorem dctK_n {a : List (Key × D)} {q : List (Key × D) → Prop} : dctK (.new .K, .dct a) q = q a := rfl
@[simp ↓] theorem seqK_l {a : List D} {q : List D → Prop} : seqK (.fz, .lst a) q = q a := rfl
@[simp ↓] theorem seqK_t {a : List D} {q : List D → Prop} : seqK (.fz, .tup a) q = q a := rfl
@[simp ↓] theorem oIx_l {k : Kd} {ds : List D} {i : Int} {q : Kd × D → Prop} : oIx (.fz, .lst ds) (k, .int i) q = optK (atI ds i) fun d => q (.fz, d) := rfl
@[simp ↓] theorem oIx_n {k : Kd} {ds : List D} {i : Int} {q : Kd × D → Prop} : oIx (.new (.L .F), .lst ds) (k, .int i) q = optK (atI ds i) fun d => q (.fz, d) := rfl
@[simp ↓] theorem oIx_b {k : Kd} {b : Nat} {p : List Nat} {m : Md} {ds : List D} {i : Int} {q : Kd × D → Prop} : oIx (.bor b p (.L m), .lst ds) (k, .int i) q = optK (ixN ds.length i) fun j => optK ds[j]? fun d => q (kAt b (p ++ [j]) m, d) := rfl
@[simp ↓] theorem oIx_t {k : Kd} {ds : List D} {i : Int} {q : Kd × D → Prop} : oIx (.fz, .tup ds) (k, .int i) q = optK (atI ds i) fun d => q (.fz, d) := rfl
@[simp ↓] theorem oIx_bt {k : Kd} {b : Nat} {p : List Nat} {ms : List Md} {ds : List D} {i : Int} {q : Kd × D → Prop} : oIx (.bor b p (.T ms), .tup ds) (k, .int i) q = optK (ixN ds.length i) fun j => optK ms[j]? fun m => optK ds[j]? fun d => q (kAt b (p ++ [j]) m, d) := rfl
@[simp ↓] theorem oIx_s {k k' : Kd} {z : Str} {i : Int} {q : Kd × D → Prop} : oIx (k', .str z) (k, .int i) q = (small z.length = true ∧ optK (atI z.cps.toList i) fun c => q (.fz, .str ⟨#[c]⟩)) := by
  cases k' with
  | fz => rfl
  | bor i p m => cases m <;> rfl
  | new m => cases m with
    | L m => cases m <;> rfl
    | _ => rfl
@[simp ↓] theorem oIx_r {k : Kd} {ns : List Int} {i : Int} {q : Kd × D → Prop} : oIx (.fz, .scr ns) (k, .int i) q = optK (atI ns i) fun n => q (.fz, .int n) := rfl
@[simp ↓] theorem oIx_df {es : List (Key × D)} {y : Kd × D} {q : Kd × D → Prop} : oIx (.fz, .dct es) y q = optK (keyOf y.2) fun k => optK (valD es k) fun d => q (.fz, d) := by
  obtain ⟨k, d⟩ := y
  cases d <;> rfl
@[simp ↓] theorem oIx_db {i : Nat} {p : List Nat} {es : List (Key × D)} {y : Kd × D} {q : Kd × D → Prop} : oIx (.bor i p .K, .dct es) y q = optK (keyOf y.2) fun k => optK (valD es k) fun d => q (.fz, d) := by
  obtain ⟨k, d⟩ := y
  cases d <;> rfl
@[simp ↓] theorem keyOf_i {i : Int} : keyOf (.int i) = some (.inl i) := rfl
@[simp ↓] theorem keyOf_s {i : Str} : keyOf (.str i) = some (.inr i) := rfl
@[simp ↓] theorem one1_c {x : Kd × D} {q : Kd × D → Prop} : one1 [x] q = q x := rfl
@[simp ↓] theorem two2_c {x y : Kd × D} {q : Kd × D → Kd × D → Prop} : two2 [x, y] q = q x y := rfl
@[simp ↓] theorem oLen_eq {xs : List (Kd × D)} {q : Kd × D → Prop} : oLen xs q = one1 xs fun x => optK (lenD x.2) fun n => q (.fz, .int n) := rfl
@[simp ↓] theorem lenD_l {ds : List D} : lenD (.lst ds) = some ds.length := rfl
@[simp ↓] theorem lenD_t {ds : List D} : lenD (.tup ds) = some ds.length := rfl
@[simp ↓] theorem lenD_d {ds : List (Key × D)} : lenD (.dct ds) = some ds.length := rfl
@[simp ↓] theorem lenD_r {ds : List Int} : lenD (.scr ds) = some ds.length := rfl
@[simp ↓] theorem lenD_s {z : Str} (h : small z.length = true) : lenD (.str z) = some z.length := by simp [lenD, h]
@[simp ↓] theorem oList_d {k : Kd} {ds : List (Key × D)} {q : Kd × D → Prop} : oList [(k, .dct ds)] q = dctK (k, .dct ds) fun ds => q (.new (.L .F), .lst (ds.map fun kv => kD kv.1)) := rfl
@[simp ↓] theorem oList_l {k : Kd} {ds : List D} {q : Kd × D → Prop} : oList [(k, .lst ds)] q = lstK (k, .lst ds) fun ds => q (.new (.L .F), .lst ds) := by show itmK _ _ = _; rw [itmK_l]
@[simp ↓] theorem oList_t {ds : List D} {q : Kd × D → Prop} : oList [(.fz, .tup ds)] q = q (.new (.L .F), .lst ds) := rfl
@[simp ↓] theorem oTuple_eq {xs : List (Kd × D)} {q : Kd × D → Prop} : oTuple xs q = one1 xs fun x => itmK x fun ds => q (.fz, .tup ds) := rfl
@[simp ↓] theorem oDict_eq {xs : List (Kd × D)} {q : Kd × D → Prop} : oDict xs q = one1 xs fun x => dctK x fun ds => q (.new .K, .dct ds) := rfl
@[simp ↓] theorem oSorted_eq {xs : List (Kd × D)} {q : Kd × D → Prop} : oSorted xs q = one1 xs fun x => lstK x fun ds => optK (intsOf ds) fun ns => ∀ ns' : List Int, ns'.Perm ns → ns'.Pairwise (· ≤ ·) → q (.new (.L .F), .lst (ns'.map .int)) := rfl
@[simp ↓] theorem oAll_eq {xs : List (Kd × D)} {q : Kd × D → Prop} : oAll xs q = one1 xs fun x => lstK x fun ds => optK (blsOf ds) fun bs => q (.fz, .bl (bs.all id)) := rfl
@[simp ↓] theorem oMax2_eq {xs : List (Kd × D)} {q : Kd × D → Prop} : oMax2 xs q = two2 xs fun x y => intK x.2 y.2 fun i j => q (.fz, .int (if j > i then j else i)) := rfl
@[simp ↓] theorem oMin2_eq {xs : List (Kd × D)} {q : Kd × D → Prop} : oMin2 xs q = two2 xs fun x y => intK x.2 y.2 fun i j => q (.fz, .int (if j < i then j else i)) := rfl
@[simp ↓] theorem oInt_i {k : Kd} {i : Int} {q : Kd × D → Prop} : oInt [(k, .int i)] q = q (.fz, .int i) := rfl
@[simp ↓] theorem oInt_b {k : Kd} {b : Bool} {q : Kd × D → Prop} : oInt [(k, .bl b)] q = q (.fz, .int (if b then 1 else 0)) := rfl
@[simp ↓] theorem tyN_1 : tyN .non = some "NoneType" := rfl
@[simp ↓] theorem tyN_2 {b : Bool} : tyN (.bl b) = some "bool" := rfl
@[simp ↓] theorem tyN_3 {b : Int} : tyN (.int b) = some "int" := rfl
@[simp ↓] theorem tyN_4 {b : Str} : tyN (.str b) = some "str" := rfl
@[simp ↓] theorem tyN_5 {b : List D} : tyN (.lst b) = some "list" := rfl
@[simp ↓] theorem tyN_6 {b : List D} : tyN (.tup b) = some "tuple" := rfl
@[simp ↓] theorem tyN_7 {b : List (Key × D)} : tyN (.dct b) = some "dict" := rfl
@[simp ↓] theorem wSl_eq {we : DE (Kd × D)} {wl wh : DE (Option Int)} : wSl we wl wh ρ P = we ρ ⟨fun p1 x ρ1 => wl ρ1 ⟨fun p2 lo ρ2 => wh ρ2 ⟨fun p3 hi ρ3 => hold x.1 (p2 ++ p3) = true ∧ oSl x lo hi fun z => P.ok (p1 ++ (p2 ++ p3)) z ρ3, P.ex⟩, P.ex⟩, P.ex⟩ := rfl
@[simp ↓] theorem wNo_eq : wNo ρ PO' = PO'.ok [] none ρ := rfl
def intK1 (d : D) (q : Int → Prop) : Prop := match d with
  | .int i => q i
  | _ => False
@[simp ↓] theorem intK1_i {i : Int} {q : Int → Prop} : intK1 (.int i) q = q i := rfl
@[simp ↓] theorem wSo_eq {we : DE (Kd × D)} : wSo we ρ PO' = we ρ ⟨fun p x ρ' => intK1 x.2 fun i => PO'.ok p (some i) ρ', PO'.ex⟩ := by
  unfold wSo
  congr 2
@[simp ↓] theorem oSl_l {k : Kd} {ds : List D} {lo hi : Option Int} {q : Kd × D → Prop} : oSl (k, .lst ds) lo hi q = lstK (k, .lst ds) fun ds => q (.new (.L .F), .lst (cutD ds lo hi)) := rfl
@[simp ↓] theorem oSl_t {ds : List D} {lo hi : Option Int} {q : Kd × D → Prop} : oSl (.fz, .tup ds) lo hi q = q (.fz, .tup (cutD ds lo hi)) := rfl
@[simp ↓] theorem oSl_r {k : Kd} {ns : List Int} {lo hi : Option Int} {q : Kd × D → Prop} : oSl (k, .scr ns) lo hi q = q (.new (.L .F), .lst (cutD (ns.map .int) lo hi)) := rfl
@[simp ↓] theorem oIn_eq {x y : Kd × D} {q : Kd × D → Prop} : oIn x y q = seqInK x.2 y fun b => q (.fz, .bl b) := rfl
@[simp ↓] theorem oNotIn_eq {x y : Kd × D} {q : Kd × D → Prop} : oNotIn x y q = seqInK x.2 y fun b => q (.fz, .bl (!b)) := rfl
@[simp ↓] theorem seqInK_l {x : D} {k : Kd} {ds : List D} {q : Bool → Prop} : seqInK x (k, .lst ds) q = ((scD x = true ∧ ds.all scD = true) ∧ q (ds.any fun z => eqvD z x)) := rfl
@[simp ↓] theorem seqInK_t {x : D} {k : Kd} {ds : List D} {q : Bool → Prop} : seqInK x (k, .tup ds) q = ((scD x = true ∧ ds.all scD = true) ∧ q (ds.any fun z => eqvD z x)) := rfl
@[simp ↓] theorem seqInK_d {x : D} {k : Kd} {ds : List (Key × D)} {q : Bool → Prop} : seqInK x (k, .dct ds) q = optK (keyOf x) fun key => dctK (k, .dct ds) fun ds => q (valD ds key).isSome := rfl
/-! fields, methods -/
@[simp ↓] theorem wFld_eq {C : Addr} {f : Str} {j : Nat} {we : DE (Kd × D)} : wFld C f j we ρ P = we ρ ⟨fun p x ρ' => fldK C f j x fun z => P.ok p z ρ', P.ex⟩ := rfl
def nthK {α : Type} (xs : List α) (j : Nat) (q : α → Prop) : Prop := match xs, j with
  | [], _ => False
  | x :: _, 0 => q x
  | _ :: xs, j + 1 => nthK xs j q
theorem nthK_of {α : Type} : ∀ {xs : List α} {j : Nat} {q : α → Prop}, nthK xs j q = (match xs[j]? with | some x => q x | none => False)
  | [], _, _ => by simp [nthK]
  | _ :: _, 0, _ => rfl
  | _ :: xs, j + 1, q => by simp [nthK, nthK_of (xs := xs)]
@[simp ↓] theorem nthK_0 {α : Type} {x : α} {xs : List α} {q : α → Prop} : nthK (x :: xs) 0 q = q x := rfl
@[simp ↓] theorem nthK_s {α : Type} {x : α} {xs : List α} {j : Nat} {q : α → Prop} : nthK (x :: xs) (j + 1) q = nthK xs j q := rfl
@[simp ↓] theorem fldK_f {C C' : Addr} {f : Str} {j : Nat} {fs : List (Str × D)} {q : Kd × D → Prop} : fldK C f j (.fz, .obj C' fs) q = (C' = C ∧ nthK fs j fun kd => kd.1 = f ∧ q (.fz, kd.2)) := by
  rw [nthK_of]
  show (C' = C ∧ _) = _
  congr 1
  cases fs[j]? <;> rfl
@[simp ↓] theorem fldK_b {C C' : Addr} {f : Str} {j i : Nat} {p : List Nat} {ms : List Md} {fs : List (Str × D)} {q : Kd × D → Prop} : fldK C f j (.bor i p (.O ms), .obj C' fs) q = (C' = C ∧ nthK fs j fun kd => nthK ms j fun m => kd.1 = f ∧ q (kAt i (p ++ [j]) m, kd.2)) := by
  rw [nthK_of]
  show (C' = C ∧ _) = _
  congr 1
  cases fs[j]? with
  | none => rfl
  | some x =>
    show _ = nthK ms j _
    rw [nthK_of]
    cases ms[j]? <;> rfl
@[simp ↓] theorem wPutF_eq {i : Nat} {C : Addr} {f : Str} {j : Nat} {we : DE (Kd × D)} : wPutF i C f j we E ρ = we ρ ⟨fun _ x ρ' => putFldK i C f j x ρ' E.nx, E.ex⟩ := rfl
@[simp ↓] theorem wMut_eq {o : OM} {wr : DE (Kd × D)} {wa : DE (List (Kd × D))} : wMut o wr wa ρ P = wr ρ ⟨fun p1 x ρ1 => isL x.2 = true ∧ wa ρ1 ⟨fun p2 es ρ2 => hold x.1 p2 = true ∧ mutK o x es fun i p d' z => P.ok (p1 ++ (p2 ++ [i])) (.fz, z) (setAt ρ2 i p d'), P.ex⟩, P.ex⟩ := rfl
@[simp ↓] theorem isL_l {ds : List D} : isL (.lst ds) = true := rfl
@[simp ↓] theorem mutK_l {o : OM} {i : Nat} {p : List Nat} {ds : List D} {es : List (Kd × D)} {q : Nat → List Nat → D → D → Prop} : mutK o (.bor i p (.L .F), .lst ds) es q = (allFz es = true ∧ o ds (es.map (·.2)) fun ds' z => q i p (.lst ds') z) := rfl
@[simp ↓] theorem mApp_eq {ds : List D} {x : D} {q : List D → D → Prop} : mApp ds [x] q = (small (ds.length + 1) = true ∧ q (ds ++ [x]) .non) := rfl
@[simp ↓] theorem mExt_eq {ds xs : List D} {q : List D → D → Prop} : mExt ds [.lst xs] q = (small (ds.length + xs.length) = true ∧ q (ds ++ xs) .non) := rfl
@[simp ↓] theorem mClear_eq {ds : List D} {q : List D → D → Prop} : mClear ds [] q = q [] .non := rfl
@[simp ↓] theorem mRev_eq {ds : List D} {q : List D → D → Prop} : mRev ds [] q = q ds.reverse .non := rfl
@[simp ↓] theorem setAt_0 {m : Md} {d0 d : D} {ρ : Rho} {p : List Nat} : setAt (some (m, d0) :: ρ) 0 p d = some (m, dSet d0 p d) :: ρ := rfl
@[simp ↓] theorem setAt_s {x : Option (Md × D)} {d : D} {ρ : Rho} {i : Nat} {p : List Nat} : setAt (x :: ρ) (i + 1) p d = x :: setAt ρ i p d := by
  unfold setAt
  rw [List.getElem?_cons_succ]
  cases ρ[i]? with
  | none => rfl
  | some y => cases y <;> rfl
@[simp ↓] theorem dSet_0 {d0 d : D} : dSet d0 [] d = d := by cases d0 <;> rfl
@[simp ↓] theorem wGet_eq {wr : DE (Kd × D)} {wa : DE (List (Kd × D))} : wGet wr wa ρ P = wr ρ ⟨fun p1 x ρ1 => isDct x.2 = true ∧ wa ρ1 ⟨fun p2 es ρ2 => hold x.1 p2 = true ∧ oGet x es fun z => P.ok (p1 ++ p2) z ρ2, P.ex⟩, P.ex⟩ := rfl
@[simp ↓] theorem isDct_d {ds : List (Key × D)} : isDct (.dct ds) = true := rfl
def getD' (o : Option D) (z : D) : D := match o with
  | some d => d
  | none => z
@[simp ↓] theorem oGet_2 {k : Kd} {ds : List (Key × D)} {y : Kd × D} {z : D} {q : Kd × D → Prop} : oGet (k, .dct ds) [y, (.fz, z)] q = optK (keyOf y.2) fun key => dctK (k, .dct ds) fun ds => q (.fz, getD' (valD ds key) z) := by
  show optK (keyOf y.2) _ = _
  congr 1
  funext key
  congr 1
  funext ds
  cases valD ds key <;> rfl
@[simp ↓] theorem oGet_1 {k : Kd} {ds : List (Key × D)} {y : Kd × D} {q : Kd × D → Prop} : oGet (k, .dct ds) [y] q = optK (keyOf y.2) fun key => dctK (k, .dct ds) fun ds => q (.fz, getD' (valD ds key) .non) := by
  show optK (keyOf y.2) _ = _
  congr 1
  funext key
  congr 1
  funext ds
  cases valD ds key <;> rfl
@[simp ↓] theorem wPopD_eq {wr : DE (Kd × D)} {wa : DE (List (Kd × D))} : wPopD wr wa ρ P = wr ρ ⟨fun p1 x ρ1 => isDct x.2 = true ∧ wa ρ1 ⟨fun p2 es ρ2 => hold x.1 p2 = true ∧ dPopK x es (fun i p d' z => P.ok (p1 ++ (p2 ++ [i])) (.fz, z) (setAt ρ2 i p d')) (fun z => P.ok (p1 ++ p2) (.fz, z) ρ2), P.ex⟩, P.ex⟩ := rfl
@[simp ↓] theorem dPopK_1 {i : Nat} {p : List Nat} {ds : List (Key × D)} {y : Kd × D} {q : Nat → List Nat → D → D → Prop} {q0 : D → Prop} : dPopK (.bor i p .K, .dct ds) [y] q q0 = optK (keyOf y.2) fun k => optK (valD ds k) fun d => q i p (.dct (dropKD ds k)) d := rfl
@[simp ↓] theorem dPopK_2 {i : Nat} {p : List Nat} {ds : List (Key × D)} {y : Kd × D} {z : D} {q : Nat → List Nat → D → D → Prop} {q0 : D → Prop} : dPopK (.bor i p .K, .dct ds) [y, (.fz, z)] q q0 = optK (keyOf y.2) fun k => (∀ d, valD ds k = some d → q i p (.dct (dropKD ds k)) d) ∧ (valD ds k = none → q0 z) := by
  show optK (keyOf y.2) _ = _
  congr 1
  funext k
  cases e : valD ds k with
  | some d => simp
  | none => simp
@[simp ↓] theorem wSub_eq {wv wr wi : DE (Kd × D)} : wSub wv wr wi E ρ = wv ρ ⟨fun _ x ρ1 => x.1.frz.md = some .F ∧ wr ρ1 ⟨fun _ r ρ2 => wi ρ2 ⟨fun p3 y ρ3 => hold r.1 p3 = true ∧ subK r y x.2 fun i p d' => E.nx (setAt ρ3 i p d'), E.ex⟩, E.ex⟩, E.ex⟩ := rfl
@[simp ↓] theorem md_f : Kd.md .fz = some .F := rfl
@[simp ↓] theorem md_n {m : Md} : Kd.md (.new m) = some m := rfl
@[simp ↓] theorem subK_l {k : Kd} {i : Nat} {p : List Nat} {ds : List D} {j : Int} {v : D} {q : Nat → List Nat → D → Prop} : subK (.bor i p (.L .F), .lst ds) (k, .int j) v q = optK (ixN ds.length j) fun j => q i p (.lst (ds.set j v)) := rfl
@[simp ↓] theorem subK_d {i : Nat} {p : List Nat} {ds : List (Key × D)} {y : Kd × D} {v : D} {q : Nat → List Nat → D → Prop} : subK (.bor i p .K, .dct ds) y v q = optK (keyOf y.2) fun k => small (ds.length + 1) = true ∧ q i p (.dct (putKD ds k v)) := by
  obtain ⟨k, d⟩ := y
  cases d <;> rfl
@[simp ↓] theorem wMeth_eq {C : Addr} {m : Str} {ms : List Md} {Wf : DF} {dfl : List D} {wr : DE (Kd × D)} {wa : DE (List (Kd × D))} : wMeth C m ms Wf dfl wr wa ρ P = wr ρ ⟨fun p1 x ρ1 => objOk C m x.2 ∧ wa ρ1 ⟨fun p2 xs ρ2 => hold x.1 p2 = true ∧ callK ms Wf (p1 ++ p2) (x :: (xs ++ dfl.map fun d => (.fz, d))) ρ2 P, P.ex⟩, P.ex⟩ := rfl
@[simp ↓] theorem objOk_o {C C' : Addr} {m : Str} {fs : List (Str × D)} : objOk C m (.obj C' fs) = (C' = C ∧ (fs.map (·.1)).contains m = false) := rfl
@[simp ↓] theorem wCall_eq {ms : List Md} {Wf : DF} {dfl : List D} {wa : DE (List (Kd × D))} : wCall ms Wf dfl wa ρ P = wa ρ ⟨fun p xs ρ1 => callK ms Wf p (xs ++ dfl.map fun d => (.fz, d)) ρ1 P, P.ex⟩ := rfl
@[simp ↓] theorem wCallB_eq {n : Nat} {Wf : DF} {dfl : List D} {wa : DE (List (Kd × D))} : wCallB n Wf dfl wa ρ P = wa ρ ⟨fun p xs ρ1 => xs.length + dfl.length = n ∧ Wf (xs.map (·.2) ++ dfl) ⟨fun z _ => scD z.2 = true ∧ P.ok p (.fz, z.2) ρ1, fun C fl _ => fl = [] ∧ P.ex C [] ρ1⟩, P.ex⟩ := rfl
@[simp ↓] theorem wMake_eq {C : Addr} {n : Nat} {fm : List Md} {Wf : DF} {dfl : List D} {wa : DE (List (Kd × D))} : wMake C n fm Wf dfl wa ρ P = wa ρ ⟨fun p xs ρ1 => (allFz xs = true ∧ xs.length + dfl.length = n) ∧ Wf (.obj C [] :: (xs.map (·.2) ++ dfl)) ⟨fun z ds' => isN z.2 = true ∧ headK ds' fun d => P.ok p (.new (.O fm), d) ρ1, fun C fl _ => P.ex C fl ρ1⟩, P.ex⟩ := rfl
@[simp ↓] theorem headK_c {d : D} {ds : List D} {q : D → Prop} : headK (d :: ds) q = q d := rfl
@[simp ↓] theorem callK_eq {ms : List Md} {Wf : DF} {p : List Nat} {xs : List (Kd × D)} : callK ms Wf p xs ρ P = ((argsOk ms xs ∧ nodupB (borS xs) = true) ∧ Wf (xs.map (·.2)) ⟨fun z ds' => P.ok (p ++ borS xs) z (putBack xs ds' ρ), fun C fl ds' => P.ex C fl (putBack xs ds' ρ)⟩) := rfl
@[simp ↓] theorem argsOk_n : argsOk [] [] = True := rfl
@[simp ↓] theorem argsOk_F {ms : List Md} {d : D} {xs : List (Kd × D)} : argsOk (.F :: ms) ((.fz, d) :: xs) = argsOk ms xs := rfl
@[simp ↓] theorem argsOk_P {m m' : Md} {ms : List Md} {i : Nat} {p : List Nat} {d : D} {xs : List (Kd × D)} : argsOk (.P m :: ms) ((.bor i p m', d) :: xs) = (m' = m ∧ argsOk ms xs) := rfl
@[simp ↓] theorem borS_n : borS [] = [] := rfl
@[simp ↓] theorem borS_f {d : D} {xs : List (Kd × D)} : borS ((.fz, d) :: xs) = borS xs := rfl
@[simp ↓] theorem borS_b {i : Nat} {p : List Nat} {m : Md} {d : D} {xs : List (Kd × D)} : borS ((.bor i p m, d) :: xs) = i :: borS xs := rfl
@[simp ↓] theorem putBack_n {ds : List D} : putBack [] ds ρ = ρ := by cases ds <;> rfl
@[simp ↓] theorem putBack_f {d d' : D} {ds : List D} {xs : List (Kd × D)} : putBack ((.fz, d) :: xs) (d' :: ds) ρ = putBack xs ds ρ := rfl
@[simp ↓] theorem putBack_b {i : Nat} {p : List Nat} {m : Md} {d d' : D} {ds : List D} {xs : List (Kd × D)} : putBack ((.bor i p m, d) :: xs) (d' :: ds) ρ = putBack xs ds (setAt ρ i p d') := rfl
/-! loops -/
@[simp ↓] theorem wIt_eq {we : DE (Kd × D)} : wIt we ρ PL = we ρ ⟨fun p x ρ' => seqK (x.1.frz, x.2) fun ds => PL.ok p ds ρ', PL.ex⟩ := rfl
@[simp ↓] theorem wRev_eq {we : DE (Kd × D)} : wRev we ρ PL = we ρ ⟨fun p x ρ' => seqK (x.1.frz, x.2) fun ds => PL.ok p ds.reverse ρ', PL.ex⟩ := rfl
@[simp ↓] theorem wRng1_eq {wa : DE (List (Kd × D))} : wRng1 wa ρ PL = wa ρ ⟨fun p xs ρ' => rng1 xs fun ds => PL.ok p ds ρ', PL.ex⟩ := rfl
@[simp ↓] theorem wRng2_eq {wa : DE (List (Kd × D))} : wRng2 wa ρ PL = wa ρ ⟨fun p xs ρ' => rng2 xs fun ds => PL.ok p ds ρ', PL.ex⟩ := rfl
@[simp ↓] theorem rng1_c {k : Kd} {j : Int} {q : List D → Prop} : rng1 [(k, .int j)] q = (inR j ∧ q (rangeD 0 j.toNat)) := rfl
@[simp ↓] theorem rng2_c {k k' : Kd} {i j : Int} {q : List D → Prop} : rng2 [(k, .int i), (k', .int j)] q = ((inR i ∧ inR j) ∧ q (rangeD i (j - i).toNat)) := rfl
@[simp ↓] theorem wEnum_eq {wa : DE (List (Kd × D))} : wEnum wa ρ PL = wa ρ ⟨fun p xs ρ' => isL1 xs fun ds => PL.ok p (enumD ds) ρ', PL.ex⟩ := rfl
@[simp ↓] theorem wZip_eq {wa : DE (List (Kd × D))} : wZip wa ρ PL = wa ρ ⟨fun p xs ρ' => isL2 xs fun ds es => PL.ok p (zipD ds es) ρ', PL.ex⟩ := rfl
@[simp ↓] theorem isL1_c {ds : List D} {q : List D → Prop} : isL1 [(.fz, .lst ds)] q = q ds := rfl
@[simp ↓] theorem isL2_c {ds es : List D} {q : List D → List D → Prop} : isL2 [(.fz, .lst ds), (.fz, .lst es)] q = q ds es := rfl
@[simp ↓] theorem isL2_t {ds es : List D} {q : List D → List D → Prop} : isL2 [(.fz, .tup ds), (.fz, .tup es)] q = q ds es := rfl
end
def forK (ds : List D) (g : DG) (b : DS) (E : En) (ρ : Rho) : Prop := ∃ I : Nat → Rho → Prop, I 0 ρ ∧ (∀ i d ρ2, ds[i]? = some d → I i ρ2 → g d ρ2 fun ρ3 => b { E with nx := I (i + 1), ct := I (i + 1), bk := E.nx } ρ3) ∧ (∀ ρ2, I ds.length ρ2 → E.nx ρ2)
@[simp ↓] theorem wFor_eq {w : DE (List D)} {g : DG} {b : DS} {E : En} {ρ : Rho} : wFor w g b E ρ = w ρ ⟨fun _ ds ρ1 => forK ds g b E ρ1, E.ex⟩ := rfl
@[simp ↓] theorem forK_nil {g : DG} {b : DS} {E : En} {ρ : Rho} : forK [] g b E ρ = E.nx ρ := propext ⟨fun ⟨I, h0, _, he⟩ => he ρ h0, fun h => ⟨fun _ r => r = ρ, rfl, fun i d ρ2 h => by simp at h, fun ρ2 e => e ▸ h⟩⟩
end VL

namespace VL
open PySem PySem.Spec PyProof.Rows L2
section
variable {K : PySem.W.Frag} {W : WX} {G G' H H' H0 : Hp} {σ : L2.St} {X : Cx} {S S0 S1 T T1 T2 U : Sta} {E : En} {Z : Ends}
/-! ### what was missing -/
def oNeg : O1 := fun x q => intK1 x.2 fun i => q (.fz, .int (-i))
theorem ok_Neg : OkR1 K (rU fun i => .int (-i)) oNeg := fun S0 S x dx Q q ok hx h k => by
  obtain ⟨kd, d⟩ := dx
  cases d with
  | int i => exact ⟨i, hx.int_inv ok, stay ok k h (v := .int (-i)) (.int _)⟩
  | _ => exact h.elim
@[simp ↓] theorem oNeg_eq {x : Kd × D} {q : Kd × D → Prop} : oNeg x q = intK1 x.2 fun i => q (.fz, .int (-i)) := rfl
section
variable {elt tg iter : Expr} {ifs : List Expr} {scope : Scope} {own : List (Str × Nat)} {pos : Pos} {wi : DE (List D)} {g : DG} {t : DE Bool} {we : DE (Kd × D)}
end
end
/-- a block that is never walked -/
theorem q_nevers {ss : List Stmt} : PSs X ss (ts X.K W wNever) := ⟨fun pins s σ H D I h => by
  obtain ⟨S, E, rfl, rfl, ok, w, l⟩ := h
  exact w.elim⟩
/-! more for simp -/
def isiK (t T : String) (q : Bool → Prop) : Prop := q (isTy t T)
@[simp ↓] theorem wIsi_eq' {T : String} {we : DE (Kd × D)} {ρ : Rho} {P : Po (Kd × D)} : wIsi T we ρ P = we ρ ⟨fun p x ρ' => optK (tyN x.2) fun t => isiK t T fun b => P.ok p (.fz, .bl b) ρ', P.ex⟩ := rfl
@[simp ↓] theorem isiK_NoneType_bool {q : Bool → Prop} : isiK "NoneType" "bool" q = q false := by rw [isiK, show isTy "NoneType" "bool" = false by decide]
@[simp ↓] theorem isiK_NoneType_int {q : Bool → Prop} : isiK "NoneType" "int" q = q false := by rw [isiK, show isTy "NoneType" "int" = false by decide]
@[simp ↓] theorem isiK_NoneType_str {q : Bool → Prop} : isiK "NoneType" "str" q = q false := by rw [isiK, show isTy "NoneType" "str" = false by decide]
@[simp ↓] theorem isiK_NoneType_list {q : Bool → Prop} : isiK "NoneType" "list" q = q false := by rw [isiK, show isTy "NoneType" "list" = false by decide]
@[simp ↓] theorem isiK_NoneType_tuple {q : Bool → Prop} : isiK "NoneType" "tuple" q = q false := by rw [isiK, show isTy "NoneType" "tuple" = false by decide]
@[simp ↓] theorem isiK_NoneType_dict {q : Bool → Prop} : isiK "NoneType" "dict" q = q false := by rw [isiK, show isTy "NoneType" "dict" = false by decide]
@[simp ↓] theorem isiK_bool_bool {q : Bool → Prop} : isiK "bool" "bool" q = q true := by rw [isiK, show isTy "bool" "bool" = true by decide]
@[simp ↓] theorem isiK_bool_int {q : Bool → Prop} : isiK "bool" "int" q = q true := by rw [isiK, show isTy "bool" "int" = true by decide]
@[simp ↓] theorem isiK_bool_str {q : Bool → Prop} : isiK "bool" "str" q = q false := by rw [isiK, show isTy "bool" "str" = false by decide]
@[simp ↓] theorem isiK_bool_list {q : Bool → Prop} : isiK "bool" "list" q = q false := by rw [isiK, show isTy "bool" "list" = false by decide]
@[simp ↓] theorem isiK_bool_tuple {q : Bool → Prop} : isiK "bool" "tuple" q = q false := by rw [isiK, show isTy "bool" "tuple" = false by decide]
@[simp ↓] theorem isiK_bool_dict {q : Bool → Prop} : isiK "bool" "dict" q = q false := by rw [isiK, show isTy "bool" "dict" = false by decide]
@[simp ↓] theorem isiK_int_bool {q : Bool → Prop} : isiK "int" "bool" q = q false := by rw [isiK, show isTy "int" "bool" = false by decide]
@[simp ↓] theorem isiK_int_int {q : Bool → Prop} : isiK "int" "int" q = q true := by rw [isiK, show isTy "int" "int" = true by decide]
@[simp ↓] theorem isiK_int_str {q : Bool → Prop} : isiK "int" "str" q = q false := by rw [isiK, show isTy "int" "str" = false by decide]
@[simp ↓] theorem isiK_int_list {q : Bool → Prop} : isiK "int" "list" q = q false := by rw [isiK, show isTy "int" "list" = false by decide]
@[simp ↓] theorem isiK_int_tuple {q : Bool → Prop} : isiK "int" "tuple" q = q false := by rw [isiK, show isTy "int" "tuple" = false by decide]
@[simp ↓] theorem isiK_int_dict {q : Bool → Prop} : isiK "int" "dict" q = q false := by rw [isiK, show isTy "int" "dict" = false by decide]
@[simp ↓] theorem isiK_str_bool {q : Bool → Prop} : isiK "str" "bool" q = q false := by rw [isiK, show isTy "str" "bool" = false by decide]
@[simp ↓] theorem isiK_str_int {q : Bool → Prop} : isiK "str" "int" q = q false := by rw [isiK, show isTy "str" "int" = false by decide]
@[simp ↓] theorem isiK_str_str {q : Bool → Prop} : isiK "str" "str" q = q true := by rw [isiK, show isTy "str" "str" = true by decide]
@[simp ↓] theorem isiK_str_list {q : Bool → Prop} : isiK "str" "list" q = q false := by rw [isiK, show isTy "str" "list" = false by decide]
@[simp ↓] theorem isiK_str_tuple {q : Bool → Prop} : isiK "str" "tuple" q = q false := by rw [isiK, show isTy "str" "tuple" = false by decide]
@[simp ↓] theorem isiK_str_dict {q : Bool → Prop} : isiK "str" "dict" q = q false := by rw [isiK, show isTy "str" "dict" = false by decide]
@[simp ↓] theorem isiK_list_bool {q : Bool → Prop} : isiK "list" "bool" q = q false := by rw [isiK, show isTy "list" "bool" = false by decide]
@[simp ↓] theorem isiK_list_int {q : Bool → Prop} : isiK "list" "int" q = q false := by rw [isiK, show isTy "list" "int" = false by decide]
@[simp ↓] theorem isiK_list_str {q : Bool → Prop} : isiK "list" "str" q = q false := by rw [isiK, show isTy "list" "str" = false by decide]
@[simp ↓] theorem isiK_list_list {q : Bool → Prop} : isiK "list" "list" q = q true := by rw [isiK, show isTy "list" "list" = true by decide]
@[simp ↓] theorem isiK_list_tuple {q : Bool → Prop} : isiK "list" "tuple" q = q false := by rw [isiK, show isTy "list" "tuple" = false by decide]
@[simp ↓] theorem isiK_list_dict {q : Bool → Prop} : isiK "list" "dict" q = q false := by rw [isiK, show isTy "list" "dict" = false by decide]
@[simp ↓] theorem isiK_tuple_bool {q : Bool → Prop} : isiK "tuple" "bool" q = q false := by rw [isiK, show isTy "tuple" "bool" = false by decide]
@[simp ↓] theorem isiK_tuple_int {q : Bool → Prop} : isiK "tuple" "int" q = q false := by rw [isiK, show isTy "tuple" "int" = false by decide]
@[simp ↓] theorem isiK_tuple_str {q : Bool → Prop} : isiK "tuple" "str" q = q false := by rw [isiK, show isTy "tuple" "str" = false by decide]
@[simp ↓] theorem isiK_tuple_list {q : Bool → Prop} : isiK "tuple" "list" q = q false := by rw [isiK, show isTy "tuple" "list" = false by decide]
@[simp ↓] theorem isiK_tuple_tuple {q : Bool → Prop} : isiK "tuple" "tuple" q = q true := by rw [isiK, show isTy "tuple" "tuple" = true by decide]
@[simp ↓] theorem isiK_tuple_dict {q : Bool → Prop} : isiK "tuple" "dict" q = q false := by rw [isiK, show isTy "tuple" "dict" = false by decide]
@[simp ↓] theorem isiK_dict_bool {q : Bool → Prop} : isiK "dict" "bool" q = q false := by rw [isiK, show isTy "dict" "bool" = false by decide]
@[simp ↓] theorem isiK_dict_int {q : Bool → Prop} : isiK "dict" "int" q = q false := by rw [isiK, show isTy "dict" "int" = false by decide]
@[simp ↓] theorem isiK_dict_str {q : Bool → Prop} : isiK "dict" "str" q = q false := by rw [isiK, show isTy "dict" "str" = false by decide]
@[simp ↓] theorem isiK_dict_list {q : Bool → Prop} : isiK "dict" "list" q = q false := by rw [isiK, show isTy "dict" "list" = false by decide]
@[simp ↓] theorem isiK_dict_tuple {q : Bool → Prop} : isiK "dict" "tuple" q = q false := by rw [isiK, show isTy "dict" "tuple" = false by decide]
@[simp ↓] theorem isiK_dict_dict {q : Bool → Prop} : isiK "dict" "dict" q = q true := by rw [isiK, show isTy "dict" "dict" = true by decide]
@[simp ↓] theorem ixN_0 {n : Nat} : ixN (n + 1) 0 = some 0 := by simp [ixN] <;> omega
@[simp ↓] theorem atI_0 {α : Type} {x0 : α} {r : List α} : L2.atI (x0 :: r) 0 = some x0 := by
  have h : ixN (x0 :: r).length 0 = some 0 := by simp [ixN] <;> omega
  unfold L2.atI
  rw [h]
  rfl
@[simp ↓] theorem atI_1 {α : Type} {x0 x1 : α} {r : List α} : L2.atI (x0 :: x1 :: r) 1 = some x1 := by
  have h : ixN (x0 :: x1 :: r).length 1 = some 1 := by simp [ixN] <;> omega
  unfold L2.atI
  rw [h]
  rfl
@[simp ↓] theorem atI_2 {α : Type} {x0 x1 x2 : α} {r : List α} : L2.atI (x0 :: x1 :: x2 :: r) 2 = some x2 := by
  have h : ixN (x0 :: x1 :: x2 :: r).length 2 = some 2 := by simp [ixN] <;> omega
  unfold L2.atI
  rw [h]
  rfl
@[simp ↓] theorem atI_3 {α : Type} {x0 x1 x2 x3 : α} {r : List α} : L2.atI (x0 :: x1 :: x2 :: x3 :: r) 3 = some x3 := by
  have h : ixN (x0 :: x1 :: x2 :: x3 :: r).length 3 = some 3 := by simp [ixN] <;> omega
  unfold L2.atI
  rw [h]
  rfl
@[simp ↓] theorem atI_4 {α : Type} {x0 x1 x2 x3 x4 : α} {r : List α} : L2.atI (x0 :: x1 :: x2 :: x3 :: x4 :: r) 4 = some x4 := by
  have h : ixN (x0 :: x1 :: x2 :: x3 :: x4 :: r).length 4 = some 4 := by simp [ixN] <;> omega
  unfold L2.atI
  rw [h]
  rfl
@[simp ↓] theorem atI_5 {α : Type} {x0 x1 x2 x3 x4 x5 : α} {r : List α} : L2.atI (x0 :: x1 :: x2 :: x3 :: x4 :: x5 :: r) 5 = some x5 := by
  have h : ixN (x0 :: x1 :: x2 :: x3 :: x4 :: x5 :: r).length 5 = some 5 := by simp [ixN] <;> omega
  unfold L2.atI
  rw [h]
  rfl
@[simp ↓] theorem atI_6 {α : Type} {x0 x1 x2 x3 x4 x5 x6 : α} {r : List α} : L2.atI (x0 :: x1 :: x2 :: x3 :: x4 :: x5 :: x6 :: r) 6 = some x6 := by
  have h : ixN (x0 :: x1 :: x2 :: x3 :: x4 :: x5 :: x6 :: r).length 6 = some 6 := by simp [ixN] <;> omega
  unfold L2.atI
  rw [h]
  rfl
@[simp ↓] theorem atI_7 {α : Type} {x0 x1 x2 x3 x4 x5 x6 x7 : α} {r : List α} : L2.atI (x0 :: x1 :: x2 :: x3 :: x4 :: x5 :: x6 :: x7 :: r) 7 = some x7 := by
  have h : ixN (x0 :: x1 :: x2 :: x3 :: x4 :: x5 :: x6 :: x7 :: r).length 7 = some 7 := by simp [ixN] <;> omega
  unfold L2.atI
  rw [h]
  rfl
@[simp ↓] theorem atI_8 {α : Type} {x0 x1 x2 x3 x4 x5 x6 x7 x8 : α} {r : List α} : L2.atI (x0 :: x1 :: x2 :: x3 :: x4 :: x5 :: x6 :: x7 :: x8 :: r) 8 = some x8 := by
  have h : ixN (x0 :: x1 :: x2 :: x3 :: x4 :: x5 :: x6 :: x7 :: x8 :: r).length 8 = some 8 := by simp [ixN] <;> omega
  unfold L2.atI
  rw [h]
  rfl
@[simp ↓] theorem atI_9 {α : Type} {x0 x1 x2 x3 x4 x5 x6 x7 x8 x9 : α} {r : List α} : L2.atI (x0 :: x1 :: x2 :: x3 :: x4 :: x5 :: x6 :: x7 :: x8 :: x9 :: r) 9 = some x9 := by
  have h : ixN (x0 :: x1 :: x2 :: x3 :: x4 :: x5 :: x6 :: x7 :: x8 :: x9 :: r).length 9 = some 9 := by simp [ixN] <;> omega
  unfold L2.atI
  rw [h]
  rfl
@[simp] theorem small_iff {n : Nat} : (small n = true) = (n ≤ 100000) := by simp [small]
@[simp ↓] theorem subL_n {q : List Nat} : subL [] q = true := rfl
@[simp] theorem subL_c {i : Nat} {p q : List Nat} : subL (i :: p) q = (q.contains i && subL p q) := rfl
@[simp ↓] theorem nodupB_n : nodupB [] = true := rfl
@[simp ↓] theorem nodupB_1 {i : Nat} : nodupB [i] = true := by simp [nodupB]
@[simp] theorem nodupB_c {i : Nat} {l : List Nat} : nodupB (i :: l) = (!l.contains i && nodupB l) := rfl
@[simp] theorem scD_n : scD .non = true := rfl
@[simp] theorem scD_b {b : Bool} : scD (.bl b) = true := rfl
@[simp] theorem scD_i {b : Int} : scD (.int b) = true := rfl
@[simp] theorem scD_s {b : Str} : scD (.str b) = true := rfl
@[simp] theorem eqvD_s {a b : Str} : eqvD (.str a) (.str b) = (a == b) := rfl
@[simp] theorem eqvD_i {a b : Int} : eqvD (.int a) (.int b) = (a == b) := rfl
@[simp] theorem eqvD_n : eqvD .non .non = true := rfl
@[simp] theorem eqvD_si {a : Str} {b : Int} : eqvD (.str a) (.int b) = false := rfl
@[simp] theorem eqvD_is {a : Str} {b : Int} : eqvD (.int b) (.str a) = false := rfl
@[simp] theorem eqvD_sn {a : Str} : eqvD (.str a) .non = false := rfl
@[simp] theorem eqvD_in {a : Int} : eqvD (.int a) .non = false := rfl
@[simp] theorem eqvD_ns {a : Str} : eqvD .non (.str a) = false := rfl
@[simp] theorem eqvD_ni {a : Int} : eqvD .non (.int a) = false := rfl
@[simp] theorem ifK_and {a b : Bool} {A B : Prop} : ifK (a && b) A B = ifK a (ifK b A B) B := by cases a <;> rfl
@[simp] theorem ifK_or {a b : Bool} {A B : Prop} : ifK (a || b) A B = ifK a A (ifK b A B) := by cases a <;> rfl
@[simp] theorem ifK_same {b : Bool} {A : Prop} : ifK b A A = A := by cases b <;> rfl
@[simp] theorem ifK_beqI {a b : Int} {A B : Prop} : ifK (a == b) A B = if a = b then A else B := by simp [ifK]
@[simp] theorem ifK_beqS {a b : Str} {A B : Prop} : ifK (a == b) A B = if a = b then A else B := by simp [ifK]
/-! a field stored -/
def mdK (k : Kd) (q : Md → Prop) : Prop := match k.md with
  | some m => q m
  | none => False
@[simp ↓] theorem mdK_f {q : Md → Prop} : mdK .fz q = q .F := rfl
@[simp ↓] theorem mdK_n {m : Md} {q : Md → Prop} : mdK (.new m) q = q m := rfl
def putsK (fs : List (Str × D)) (j : Nat) (f : Str) (d : D) (ms : List Md) (mx : Md) (q : List (Str × D) → List Md → Prop) : Prop := match fs[j]? with
  | some (k, _) => k = f ∧ q (fs.set j (f, d)) (ms.set j mx)
  | none => (fs.map (·.1)).contains f = false ∧ q (fs ++ [(f, d)]) (ms ++ [mx])
@[simp ↓] theorem putFldK_s {i j : Nat} {C : Addr} {f : Str} {x : Kd × D} {y : Option (Md × D)} {ρ : Rho} {q : Rho → Prop} : putFldK (i + 1) C f j x (y :: ρ) q = putFldK i C f j x ρ fun ρ' => q (y :: ρ') := by
  unfold putFldK
  rw [List.getElem?_cons_succ]
  rfl
@[simp ↓] theorem putFldK_P {j : Nat} {C C' : Addr} {f : Str} {x : Kd × D} {ms : List Md} {fs : List (Str × D)} {ρ : Rho} {q : Rho → Prop} : putFldK 0 C f j x (some (.P (.O ms), .obj C' fs) :: ρ) q = mdK x.1 fun mx => (C' = C ∧ notP mx = true ∧ fs.length ≤ 900) ∧ putsK fs j f x.2 ms mx fun fs' ms' => q (some (.P (.O ms'), .obj C fs') :: ρ) := by
  unfold putFldK mdK putsK
  cases x.1.md with
  | none => rfl
  | some mx =>
    show ((C' = C ∧ notP mx = true ∧ Nat.ble fs.length 900 = true) ∧ _) = _
    rw [show (Nat.ble fs.length 900 = true) = (fs.length ≤ 900) by simp]
    congr 1
@[simp ↓] theorem putFldK_O {j : Nat} {C C' : Addr} {f : Str} {x : Kd × D} {ms : List Md} {fs : List (Str × D)} {ρ : Rho} {q : Rho → Prop} : putFldK 0 C f j x (some (.O ms, .obj C' fs) :: ρ) q = mdK x.1 fun mx => (C' = C ∧ notP mx = true ∧ fs.length ≤ 900) ∧ putsK fs j f x.2 ms mx fun fs' ms' => q (some (.O ms', .obj C fs') :: ρ) := by
  unfold putFldK mdK putsK
  cases x.1.md with
  | none => rfl
  | some mx =>
    show ((C' = C ∧ notP mx = true ∧ Nat.ble fs.length 900 = true) ∧ _) = _
    rw [show (Nat.ble fs.length 900 = true) = (fs.length ≤ 900) by simp]
    congr 1
@[simp ↓] theorem putsK_r0 {x0 : Str × D} {r : List (Str × D)} {m0 : Md} {rs : List Md} {f : Str} {d : D} {mx : Md} {q : List (Str × D) → List Md → Prop} : putsK (x0 :: r) 0 f d (m0 :: rs) mx q = (x0.1 = f ∧ q ((f, d) :: r) (mx :: rs)) := rfl
@[simp ↓] theorem putsK_r1 {x0 x1 : Str × D} {r : List (Str × D)} {m0 m1 : Md} {rs : List Md} {f : Str} {d : D} {mx : Md} {q : List (Str × D) → List Md → Prop} : putsK (x0 :: x1 :: r) 1 f d (m0 :: m1 :: rs) mx q = (x1.1 = f ∧ q (x0 :: (f, d) :: r) (m0 :: mx :: rs)) := rfl
@[simp ↓] theorem putsK_r2 {x0 x1 x2 : Str × D} {r : List (Str × D)} {m0 m1 m2 : Md} {rs : List Md} {f : Str} {d : D} {mx : Md} {q : List (Str × D) → List Md → Prop} : putsK (x0 :: x1 :: x2 :: r) 2 f d (m0 :: m1 :: m2 :: rs) mx q = (x2.1 = f ∧ q (x0 :: x1 :: (f, d) :: r) (m0 :: m1 :: mx :: rs)) := rfl
@[simp ↓] theorem putsK_r3 {x0 x1 x2 x3 : Str × D} {r : List (Str × D)} {m0 m1 m2 m3 : Md} {rs : List Md} {f : Str} {d : D} {mx : Md} {q : List (Str × D) → List Md → Prop} : putsK (x0 :: x1 :: x2 :: x3 :: r) 3 f d (m0 :: m1 :: m2 :: m3 :: rs) mx q = (x3.1 = f ∧ q (x0 :: x1 :: x2 :: (f, d) :: r) (m0 :: m1 :: m2 :: mx :: rs)) := rfl
@[simp ↓] theorem putsK_r4 {x0 x1 x2 x3 x4 : Str × D} {r : List (Str × D)} {m0 m1 m2 m3 m4 : Md} {rs : List Md} {f : Str} {d : D} {mx : Md} {q : List (Str × D) → List Md → Prop} : putsK (x0 :: x1 :: x2 :: x3 :: x4 :: r) 4 f d (m0 :: m1 :: m2 :: m3 :: m4 :: rs) mx q = (x4.1 = f ∧ q (x0 :: x1 :: x2 :: x3 :: (f, d) :: r) (m0 :: m1 :: m2 :: m3 :: mx :: rs)) := rfl
@[simp ↓] theorem putsK_r5 {x0 x1 x2 x3 x4 x5 : Str × D} {r : List (Str × D)} {m0 m1 m2 m3 m4 m5 : Md} {rs : List Md} {f : Str} {d : D} {mx : Md} {q : List (Str × D) → List Md → Prop} : putsK (x0 :: x1 :: x2 :: x3 :: x4 :: x5 :: r) 5 f d (m0 :: m1 :: m2 :: m3 :: m4 :: m5 :: rs) mx q = (x5.1 = f ∧ q (x0 :: x1 :: x2 :: x3 :: x4 :: (f, d) :: r) (m0 :: m1 :: m2 :: m3 :: m4 :: mx :: rs)) := rfl
@[simp ↓] theorem putsK_a0 {f : Str} {d : D} {mx : Md} {q : List (Str × D) → List Md → Prop} : putsK [] 0 f d [] mx q = ([].contains f = false ∧ q [(f, d)] [mx]) := rfl
@[simp ↓] theorem putsK_a1 {x0 : Str × D} {m0 : Md} {f : Str} {d : D} {mx : Md} {q : List (Str × D) → List Md → Prop} : putsK [x0] 1 f d [m0] mx q = ([x0.1].contains f = false ∧ q [x0, (f, d)] [m0, mx]) := rfl
@[simp ↓] theorem putsK_a2 {x0 x1 : Str × D} {m0 m1 : Md} {f : Str} {d : D} {mx : Md} {q : List (Str × D) → List Md → Prop} : putsK [x0, x1] 2 f d [m0, m1] mx q = ([x0.1, x1.1].contains f = false ∧ q [x0, x1, (f, d)] [m0, m1, mx]) := rfl
@[simp ↓] theorem putsK_a3 {x0 x1 x2 : Str × D} {m0 m1 m2 : Md} {f : Str} {d : D} {mx : Md} {q : List (Str × D) → List Md → Prop} : putsK [x0, x1, x2] 3 f d [m0, m1, m2] mx q = ([x0.1, x1.1, x2.1].contains f = false ∧ q [x0, x1, x2, (f, d)] [m0, m1, m2, mx]) := rfl
@[simp ↓] theorem putsK_a4 {x0 x1 x2 x3 : Str × D} {m0 m1 m2 m3 : Md} {f : Str} {d : D} {mx : Md} {q : List (Str × D) → List Md → Prop} : putsK [x0, x1, x2, x3] 4 f d [m0, m1, m2, m3] mx q = ([x0.1, x1.1, x2.1, x3.1].contains f = false ∧ q [x0, x1, x2, x3, (f, d)] [m0, m1, m2, m3, mx]) := rfl
@[simp ↓] theorem putsK_a5 {x0 x1 x2 x3 x4 : Str × D} {m0 m1 m2 m3 m4 : Md} {f : Str} {d : D} {mx : Md} {q : List (Str × D) → List Md → Prop} : putsK [x0, x1, x2, x3, x4] 5 f d [m0, m1, m2, m3, m4] mx q = ([x0.1, x1.1, x2.1, x3.1, x4.1].contains f = false ∧ q [x0, x1, x2, x3, x4, (f, d)] [m0, m1, m2, m3, m4, mx]) := rfl
@[simp ↓] theorem dSet_o0 {C : Addr} {x0 : Str × D} {r : List (Str × D)} {d : D} : dSet (.obj C (x0 :: r)) [0] d = .obj C ((x0.1, d) :: r) := rfl
@[simp ↓] theorem dSet_o1 {C : Addr} {x0 x1 : Str × D} {r : List (Str × D)} {d : D} : dSet (.obj C (x0 :: x1 :: r)) [1] d = .obj C (x0 :: (x1.1, d) :: r) := rfl
@[simp ↓] theorem dSet_o2 {C : Addr} {x0 x1 x2 : Str × D} {r : List (Str × D)} {d : D} : dSet (.obj C (x0 :: x1 :: x2 :: r)) [2] d = .obj C (x0 :: x1 :: (x2.1, d) :: r) := rfl
@[simp ↓] theorem dSet_o3 {C : Addr} {x0 x1 x2 x3 : Str × D} {r : List (Str × D)} {d : D} : dSet (.obj C (x0 :: x1 :: x2 :: x3 :: r)) [3] d = .obj C (x0 :: x1 :: x2 :: (x3.1, d) :: r) := rfl
@[simp ↓] theorem dSet_o4 {C : Addr} {x0 x1 x2 x3 x4 : Str × D} {r : List (Str × D)} {d : D} : dSet (.obj C (x0 :: x1 :: x2 :: x3 :: x4 :: r)) [4] d = .obj C (x0 :: x1 :: x2 :: x3 :: (x4.1, d) :: r) := rfl
@[simp ↓] theorem dSet_o5 {C : Addr} {x0 x1 x2 x3 x4 x5 : Str × D} {r : List (Str × D)} {d : D} : dSet (.obj C (x0 :: x1 :: x2 :: x3 :: x4 :: x5 :: r)) [5] d = .obj C (x0 :: x1 :: x2 :: x3 :: x4 :: (x5.1, d) :: r) := rfl
/-! loops -/
def fr (o : Option D) : Option (Md × D) := o.map fun d => (.F, d)
@[simp ↓] theorem stK_fr {o : Option D} {md : Md × D} {ρ : Rho} {q : Rho → Prop} : stK 0 md (fr o :: ρ) q = q (some md :: ρ) := by cases o <;> simp [stK, okSlot, fr]
@[simp] theorem fr_ex {d : D} : (∃ x, some (Md.F, d) = fr x) = True := by simp; exact ⟨some d, rfl⟩
@[simp] theorem fr_exf {o : Option D} : (∃ x, fr o = fr x) = True := by simp; exact ⟨o, rfl⟩
@[simp] theorem fr_exn : (∃ x, none = fr x) = True := by simp; exact ⟨none, rfl⟩
def whileK (c : DE Bool) (b : DS) (E : En) (ρ : Rho) : Prop := ∃ I : Nat → Rho → Prop, (∃ m, I m ρ) ∧ ∀ m ρ, I m ρ → c ρ ⟨fun _ k ρ' => ifK k (b { E with nx := fun ρ2 => ∃ m', m' < m ∧ I m' ρ2, ct := fun ρ2 => ∃ m', m' < m ∧ I m' ρ2, bk := E.nx } ρ') (E.nx ρ'), E.ex⟩
@[simp ↓] theorem wWhile_eq {c : DE Bool} {b : DS} {E : En} {ρ : Rho} : wWhile c b E ρ = whileK c b E ρ := by
  unfold wWhile whileK
  congr 1
  funext I
  congr 1
  refine forall_congr fun m => forall_congr fun ρ => ?_
  congr 1
  congr 1
  congr 1
  funext p k ρ'
  cases k <;> rfl
def lcK (ds : List D) (g : DG) (t : DE Bool) (we : DE (Kd × D)) (vs q : List Nat) (ρ : Rho) (Z : List D → Rho → Prop) : Prop := ∃ I : Nat → List D → Rho → Prop, I 0 [] ρ ∧
  (∀ i d acc ρ2, ds[i]? = some d → I i acc ρ2 → lcTurn g t we vs q d acc ρ2 (I (i + 1))) ∧ (∀ acc ρ2, I ds.length acc ρ2 → Z acc ρ2)
@[simp ↓] theorem wLc_eq {w : DE (List D)} {g : DG} {t : DE Bool} {we : DE (Kd × D)} {vs q : List Nat} {ρ : Rho} {P : Po (Kd × D)} : wLc w g t we vs q ρ P = w ρ ⟨fun p ds ρ1 => lcK ds g t we vs q (wipeR ρ1 vs) fun acc ρ2 => P.ok (p ++ (vs ++ q)) (.new (.L .F), .lst acc) ρ2, P.ex⟩ := rfl
@[simp ↓] theorem lcTurn_eq {g : DG} {t : DE Bool} {we : DE (Kd × D)} {vs q : List Nat} {d : D} {acc : List D} {ρ : Rho} {N : List D → Rho → Prop} : lcTurn g t we vs q d acc ρ N = g d ρ fun ρ3 => t ρ3 ⟨fun p4 b ρ4 => subL p4 q = true ∧ ifK b (we ρ4 ⟨fun p5 x ρ5 => (subL p5 q = true ∧ allFz [(x.1.frz, x.2)] = true ∧ small (acc.length + 1) = true) ∧ N (acc ++ [x.2]) (wipeR ρ5 vs), noEx⟩) (N acc (wipeR ρ4 vs)), noEx⟩ := by
  unfold lcTurn
  congr 1
  funext ρ3
  congr 2
  funext p b ρ4
  cases b <;> rfl
@[simp ↓] theorem wipeR_n {ρ : Rho} : wipeR ρ [] = ρ := rfl
@[simp ↓] theorem wipeR_c {ρ : Rho} {v : Nat} {vs : List Nat} : wipeR ρ (v :: vs) = (wipeR ρ vs).set v none := rfl
/-- every item's answer is G of it -/
theorem lc_map {ds : List D} {g : DG} {we : DE (Kd × D)} {vs q : List Nat} {ρ : Rho} {Z : List D → Rho → Prop} (G : D → D) (hz : Z (ds.map G) ρ)
    (h : ∀ d ∈ ds, ∀ acc : List D, acc.length < ds.length → lcTurn g wYes we vs q d acc ρ fun acc' ρ' => acc' = acc ++ [G d] ∧ ρ' = ρ) : lcK ds g wYes we vs q ρ Z := by
  refine ⟨fun i acc r => acc = (ds.take i).map G ∧ r = ρ, ⟨by simp, rfl⟩, fun i d acc r hd hi => ?_, fun acc r hr => ?_⟩
  · obtain ⟨rfl, rfl⟩ := hi
    have hlt := (List.getElem?_eq_some_iff.mp hd).1
    have e : (ds.take (i + 1)).map G = (ds.take i).map G ++ [G d] := by
      rw [List.take_add_one, hd]
      simp
    have z := h d (List.mem_of_getElem? hd) ((ds.take i).map G) (by simp; omega)
    rw [← e] at z
    exact z
  · obtain ⟨rfl, rfl⟩ := hr
    rw [List.take_length]
    exact hz
theorem lc_mapA {α : Type} {xs : List α} {f G : α → D} {g : DG} {we : DE (Kd × D)} {vs q : List Nat} {ρ : Rho} {Z : List D → Rho → Prop} (hz : Z (xs.map G) ρ)
    (h : ∀ x ∈ xs, ∀ acc : List D, acc.length < xs.length → lcTurn g wYes we vs q (f x) acc ρ fun acc' ρ' => acc' = acc ++ [G x] ∧ ρ' = ρ) : lcK (xs.map f) g wYes we vs q ρ Z := by
  refine ⟨fun i acc r => acc = (xs.take i).map G ∧ r = ρ, ⟨by simp, rfl⟩, fun i d acc r hd hi => ?_, fun acc r hr => ?_⟩
  · obtain ⟨rfl, rfl⟩ := hi
    rw [List.getElem?_map] at hd
    cases ex : xs[i]? with
    | none => rw [ex] at hd; cases hd
    | some x =>
      rw [ex] at hd
      cases hd
      have hlt := (List.getElem?_eq_some_iff.mp ex).1
      have e : (xs.take (i + 1)).map G = (xs.take i).map G ++ [G x] := by
        rw [List.take_add_one, ex]
        simp
      have z := h x (List.mem_of_getElem? ex) ((xs.take i).map G) (by simp; omega)
      rw [← e] at z
      exact z
  · obtain ⟨rfl, rfl⟩ := hr
    rw [List.length_map, List.take_length]
    exact hz
/-- a slot that may be stored -/
def gr : Option (Md × D) → Option (Md × D)
  | some (.P _, _) => none
  | o => o
@[simp ↓] theorem stK_gr {o : Option (Md × D)} {md : Md × D} {ρ : Rho} {q : Rho → Prop} : stK 0 md (gr o :: ρ) q = q (some md :: ρ) := by
  cases o with
  | none => simp [stK, okSlot, gr]
  | some x =>
    obtain ⟨m, d⟩ := x
    cases m <;> simp [stK, okSlot, gr]
@[simp] theorem gr_F {d : D} : (∃ x, some (Md.F, d) = gr x) = True := by simp; exact ⟨some (.F, d), rfl⟩
@[simp] theorem gr_L {d : D} {m : Md} : (∃ x, some (Md.L m, d) = gr x) = True := by simp; exact ⟨some (.L m, d), rfl⟩
@[simp] theorem gr_K {d : D} : (∃ x, some (Md.K, d) = gr x) = True := by simp; exact ⟨some (.K, d), rfl⟩
@[simp] theorem gr_O {d : D} {m : List Md} : (∃ x, some (Md.O m, d) = gr x) = True := by simp; exact ⟨some (.O m, d), rfl⟩
@[simp] theorem gr_n : (∃ x, none = gr x) = True := by simp; exact ⟨none, rfl⟩
@[simp] theorem gr_g {o : Option (Md × D)} : (∃ x, gr o = gr x) = True := by simp; exact ⟨o, rfl⟩
@[simp] theorem gr_f {o : Option D} : (∃ x, fr o = gr x) = True := by simp; exact ⟨fr o, by cases o <;> rfl⟩
/-- a loop over items: J says what stands ahead of the i-th turn -/
theorem for_inv {ds : List D} {g : DG} {b : DS} {E : En} {ρ : Rho} (J : Nat → Rho → Prop) (h0 : J 0 ρ) (he : ∀ ρ2, J ds.length ρ2 → E.nx ρ2) (hs : ∀ i d ρ2, ds[i]? = some d → J i ρ2 → g d ρ2 fun ρ3 => b { E with nx := J (i + 1), ct := J (i + 1), bk := E.nx } ρ3) : forK ds g b E ρ := ⟨J, h0, hs, he⟩
theorem map_toNat_inj : ∀ {a b : List Char}, a.map Char.toNat = b.map Char.toNat → a = b
  | [], [], _ => rfl
  | [], _ :: _, h => by simp at h
  | _ :: _, [], h => by simp at h
  | x :: a, y :: b, h => by
    simp only [List.map_cons, List.cons.injEq] at h
    rw [map_toNat_inj h.2, Char.toNat_inj.mp h.1]
@[simp] theorem str_inj {a b : String} : (Str.ofString a = Str.ofString b) ↔ a = b := by
  refine ⟨fun h => ?_, fun h => h ▸ rfl⟩
  rw [Str.ofString_eq_toList, Str.ofString_eq_toList] at h
  have h1 : a.toList.map Char.toNat = b.toList.map Char.toNat := by simpa using h
  exact String.toList_inj.mp (map_toNat_inj h1)
theorem fnok_none {P : Program} {w : World} {K : PySem.W.Frag} {mg : Str → Option Value} {base : Heap} {CX : CXT} {k : Nat} {f : Addr} {fd : FuncData} {ps : List Str} {ms ms' : List Md} {Wf : DF} (h : ∀ ds P, Wf ds P → False) : FnOk P w K mg base CX k f fd ps (spV K ms ms' Wf) := by
  refine ⟨fun vs H Q E q => ?_, fun A outer s H args us vs Q E _ _ _ _ q => ?_⟩
  · obtain ⟨_, ds, P, _, _, _, _, _, _, _, z, _⟩ := q
    exact (h ds P z).elim
  · obtain ⟨_, ds, P, _, _, _, _, _, _, _, z, _⟩ := q
    exact (h ds P z).elim
/-- the law's own start: the script comes in, True goes out -/
theorem law_start {K : PySem.W.Frag} {H : Hp} {a : Addr} {ns : List Int} {Wf : DF} (hS : SqL K H a (ns.map V.int)) (h : ∀ P : Pf, P.ok (.fz, .bl true) [.scr ns] → Wf [.scr ns] P) : spV K [.F] [.F] Wf [.ref a] H (fun v _ => v = .bl true) fun _ _ _ => False := by
  refine ⟨⟨fun i => [V.ref a][i]?, H, H, [some (.ref a)], zr [.F] [.scr ns], fun _ => []⟩, [.scr ns], ⟨fun z _ => z.2 = .bl true, fun _ _ _ => False⟩, rfl, rfl, rfl, rfl, rfl, rfl, ?_, h _ rfl, ?_, ?_⟩
  · exact {
      ext := Ex.refl _
      len := rfl
      slot := fun i m d e => by
        obtain ⟨e1, e2⟩ := zr_get.mp e
        cases i with
        | zero =>
          simp at e1 e2
          subst e1; subst e2
          exact ⟨_, rfl, .F (.scr hS)⟩
        | succ i => simp at e1
      emp := fun _ _ => rfl
      nd := fun _ => List.nodup_nil
      dj := fun _ _ _ h => nomatch h
      out := fun _ _ h => nomatch h
      pins := fun i m d e => by
        obtain ⟨e1, e2⟩ := zr_get.mp e
        cases i with
        | zero => simp at e1
        | succ i => simp at e1 }
  · rintro ⟨k, d⟩ ds' T hx _ _ _ okT _ _ v hv
    have hx : d = .bl true := hx
    subst hx
    exact hv.bl_inv okT
  · intro C fl ds' T hx
    exact hx.elim
end VL

namespace VL
open PySem PySem.Spec PyProof.Rows L2
section
variable {K : PySem.W.Frag} {W : WX} {G G' H H' H0 : Hp} {σ : L2.St} {ρ : Rho} {X : Cx} {S S0 S1 T T1 T2 U : Sta} {E : En} {Z : Ends}
/-! ### == at any depth -/
mutual
def pdOf : D → PyData
  | .lst xs => .list (pdOfs xs)
  | .tup xs => .tuple (pdOfs xs)
  | .bl a => .bool a
  | .int a => .int a
  | .str a => .str a
  | _ => .none
def pdOfs : List D → List PyData
  | [] => []
  | x :: xs => pdOf x :: pdOfs xs
end
/-- None, bools, ints, texts, lists and tuples of such, so deep at most -/
def pdK : Nat → D → Bool
  | _, .non => true
  | _, .bl _ => true
  | _, .int _ => true
  | _, .str x => PyData.strOk x
  | n + 1, .lst xs => xs.all (pdK n)
  | n + 1, .tup xs => xs.all (pdK n)
  | _, _ => false
theorem pdK_all {n : Nat} (ih : ∀ x, pdK n x = true → (pdOf x).canLay0 = true ∧ (pdOf x).depth ≤ n) : ∀ xs : List D, xs.all (pdK n) = true → PyData.canLayAll0 (pdOfs xs) = true ∧ PyData.depthAll (pdOfs xs) ≤ n
  | [], _ => by simp [pdOfs, PyData.canLayAll0, PyData.depthAll]
  | x :: xs, h => by
    simp only [List.all_cons, Bool.and_eq_true] at h
    obtain ⟨h1, h2⟩ := ih x h.1
    obtain ⟨h3, h4⟩ := pdK_all ih xs h.2
    simp only [pdOfs, PyData.canLayAll0, PyData.depthAll, Bool.and_eq_true]
    exact ⟨⟨h1, h3⟩, by omega⟩
theorem pdK_ok : ∀ {n : Nat} {x : D}, pdK n x = true → (pdOf x).canLay0 = true ∧ (pdOf x).depth ≤ n
  | 0, x, h => by
    cases x <;> simp [pdK] at h <;> simp [pdOf, PyData.canLay0, PyData.depth]
    exact h
  | n + 1, x, h => by
    cases x <;> simp only [pdK] at h <;> simp only [pdOf, PyData.canLay0, PyData.depth] <;> try simp
    · exact h
    · obtain ⟨h1, h2⟩ := pdK_all (fun x hx => pdK_ok hx) _ h
      exact ⟨h1, h2⟩
    · obtain ⟨h1, h2⟩ := pdK_all (fun x hx => pdK_ok hx) _ h
      exact ⟨h1, h2⟩
    all_goals cases h
theorem pdK_shaped {n : Nat} {x : D} (h : pdK n x = true) (hn : n ≤ 64) : SeqAt.shaped (pdOf x) = true := by
  obtain ⟨h1, h2⟩ := pdK_ok h
  unfold SeqAt.shaped
  rw [h1]
  simp
  omega
mutual
theorem Dt.dp : ∀ {v : V} {d : D} {n : Nat}, Dt K G v d → pdK n d = true → Dp K G v (pdOf d)
  | _, _, _, .non, _ => .non
  | _, _, _, .bl b, _ => .bl b
  | _, _, _, .int i, _ => .int i
  | _, _, _, .str x, _ => .str x
  | _, _, 0, .lst h a, e => by simp [pdK] at e
  | _, _, n + 1, .lst h a, e => .lst (.of h) (DtA.dp a (n := n) e)
  | _, _, 0, .tup h a, e => by simp [pdK] at e
  | _, _, n + 1, .tup h a, e => .tup h (DtA.dp a (n := n) e)
  | _, _, n, .dct h a, e => by cases n <;> simp [pdK] at e
  | _, _, n, .obj h1 h2 a, e => by cases n <;> simp [pdK] at e
  | _, _, n, .scr h, e => by cases n <;> simp [pdK] at e
  | _, _, n, .exc h, e => by cases n <;> simp [pdK] at e
  | _, _, n, .ndc h a, e => by cases n <;> simp [pdK] at e
  | _, _, n, .exf h _ a, e => by cases n <;> simp [pdK] at e
theorem DtA.dp : ∀ {v : List V} {d : List D} {n : Nat}, DtA K G v d → d.all (pdK n) = true → DpAll K G v (pdOfs d)
  | _, _, _, .nil, _ => .nil
  | _, _, n, .cons h t, e => by
    simp only [List.all_cons, Bool.and_eq_true] at e
    exact .cons (Dt.dp h e.1) (DtA.dp t e.2)
end
/-- == of two things -/
def eqX (x y : D) : Bool := PyData.eqv (pdOf x) (pdOf y)
def eqXs (x y : List D) : Bool := PyData.eqvAll (pdOfs x) (pdOfs y)
@[simp] theorem eqX_tt {x y : List D} : eqX (.tup x) (.tup y) = eqXs x y := rfl
@[simp] theorem eqX_ll {x y : List D} : eqX (.lst x) (.lst y) = eqXs x y := rfl
@[simp] theorem eqX_ii {x y : Int} : eqX (.int x) (.int y) = decide (x = y) := by show (x == y) = _; rw [Bool.eq_iff_iff]; simp
@[simp] theorem eqX_ss {x y : Str} : eqX (.str x) (.str y) = decide (x = y) := by show (x == y) = _; rw [Bool.eq_iff_iff]; simp
@[simp] theorem eqX_bb {x y : Bool} : eqX (.bl x) (.bl y) = decide (x = y) := by show (x == y) = _; rw [Bool.eq_iff_iff]; simp
@[simp] theorem eqX_nn : eqX .non .non = true := rfl
@[simp] theorem eqX_ns {y : Str} : eqX .non (.str y) = false := rfl
@[simp] theorem eqX_sn {y : Str} : eqX (.str y) .non = false := rfl
@[simp] theorem eqX_ni {y : Int} : eqX .non (.int y) = false := rfl
@[simp] theorem eqX_in {y : Int} : eqX (.int y) .non = false := rfl
@[simp] theorem eqX_is {x : Int} {y : Str} : eqX (.int x) (.str y) = false := rfl
@[simp] theorem eqX_si {x : Int} {y : Str} : eqX (.str y) (.int x) = false := rfl
@[simp] theorem eqX_ls {x : List D} {y : Str} : eqX (.lst x) (.str y) = false := rfl
@[simp] theorem eqX_sl {x : List D} {y : Str} : eqX (.str y) (.lst x) = false := rfl
@[simp] theorem eqX_ts {x : List D} {y : Str} : eqX (.tup x) (.str y) = false := rfl
@[simp] theorem eqX_st {x : List D} {y : Str} : eqX (.str y) (.tup x) = false := rfl
@[simp] theorem eqX_tl {x y : List D} : eqX (.tup x) (.lst y) = false := rfl
@[simp] theorem eqX_lt {x y : List D} : eqX (.lst x) (.tup y) = false := rfl
@[simp] theorem eqX_tn {x : List D} : eqX (.tup x) .non = false := rfl
@[simp] theorem eqX_nt {x : List D} : eqX .non (.tup x) = false := rfl
@[simp] theorem eqX_ln {x : List D} : eqX (.lst x) .non = false := rfl
@[simp] theorem eqX_nl {x : List D} : eqX .non (.lst x) = false := rfl
@[simp] theorem eqX_ti {x : List D} {y : Int} : eqX (.tup x) (.int y) = false := rfl
@[simp] theorem eqX_it {x : List D} {y : Int} : eqX (.int y) (.tup x) = false := rfl
@[simp] theorem eqX_li {x : List D} {y : Int} : eqX (.lst x) (.int y) = false := rfl
@[simp] theorem eqX_il {x : List D} {y : Int} : eqX (.int y) (.lst x) = false := rfl
@[simp] theorem eqX_bs {x : Bool} {y : Str} : eqX (.bl x) (.str y) = false := rfl
@[simp] theorem eqX_sb {x : Bool} {y : Str} : eqX (.str y) (.bl x) = false := rfl
@[simp] theorem eqXs_nn : eqXs [] [] = true := rfl
@[simp] theorem eqXs_nc {y : D} {ys : List D} : eqXs [] (y :: ys) = false := rfl
@[simp] theorem eqXs_cn {y : D} {ys : List D} : eqXs (y :: ys) [] = false := rfl
@[simp] theorem eqXs_cc {x y : D} {xs ys : List D} : eqXs (x :: xs) (y :: ys) = (eqX x y && eqXs xs ys) := by
  unfold eqXs
  rw [pdOfs, pdOfs, PyData.eqvAll]
  rfl
def oEqX : O2 := fun x y q => (pdK 60 x.2 = true ∧ pdK 60 y.2 = true) ∧ q (.fz, .bl (eqX x.2 y.2))
def oNeX : O2 := fun x y q => (pdK 60 x.2 = true ∧ pdK 60 y.2 = true) ∧ q (.fz, .bl (!eqX x.2 y.2))
theorem ok_EqX : OkR2 K (rEqD K) oEqX := fun S0 S x y dx dy Q q ok hx hy h k =>
  ⟨pdOf dx.2, pdOf dy.2, (hx.dt ok).dp h.1.1, (hy.dt ok).dp h.1.2, pdK_shaped h.1.1 (by decide), pdK_shaped h.1.2 (by decide), stay ok k h.2 (v := .bl _) (.bl _)⟩
@[simp ↓] theorem oEqX_eq {x y : Kd × D} {q : Kd × D → Prop} : oEqX x y q = ((pdK 60 x.2 = true ∧ pdK 60 y.2 = true) ∧ q (.fz, .bl (eqX x.2 y.2))) := rfl
@[simp ↓] theorem oNeX_eq {x y : Kd × D} {q : Kd × D → Prop} : oNeX x y q = ((pdK 60 x.2 = true ∧ pdK 60 y.2 = true) ∧ q (.fz, .bl (!eqX x.2 y.2))) := rfl
theorem hu64 {A : Around} {k : Nat} (hr : Room k A) : A.units + 64 < cLine := by have := hr.un; omega
@[simp] theorem pdK_n {n : Nat} : pdK n .non = true := by cases n <;> rfl
@[simp] theorem pdK_b {n : Nat} {b : Bool} : pdK n (.bl b) = true := by cases n <;> rfl
@[simp] theorem pdK_i {n : Nat} {i : Int} : pdK n (.int i) = true := by cases n <;> rfl
@[simp] theorem pdK_s {n : Nat} {s : Str} : pdK n (.str s) = PyData.strOk s := by cases n <;> rfl
@[simp] theorem pdK_l {n : Nat} {xs : List D} : pdK (n + 1) (.lst xs) = xs.all (pdK n) := rfl
@[simp] theorem pdK_t {n : Nat} {xs : List D} : pdK (n + 1) (.tup xs) = xs.all (pdK n) := rfl
@[simp] theorem strOk_lit {s : String} : PyData.strOk (Str.ofString s) = true := by
  rw [Str.ofString_eq_toList]
  unfold PyData.strOk
  simp
  intro c hc
  rcases c.valid with h | h
  · exact Nat.lt_trans h (by decide)
  · exact h.2
/-! ### x is True, x is not False -/
def blK2 (x y : D) (q : Bool → Bool → Prop) : Prop := match x, y with
  | .bl a, .bl b => q a b
  | _, _ => False
@[simp ↓] theorem blK2_b {a b : Bool} {q : Bool → Bool → Prop} : blK2 (.bl a) (.bl b) q = q a b := rfl
def oIsB : O2 := fun x y q => blK2 x.2 y.2 fun a b => q (.fz, .bl (decide (a = b)))
def oNotB : O2 := fun x y q => blK2 x.2 y.2 fun a b => q (.fz, .bl (!decide (a = b)))
@[simp ↓] theorem oIsB_eq {x y : Kd × D} {q : Kd × D → Prop} : oIsB x y q = blK2 x.2 y.2 fun a b => q (.fz, .bl (decide (a = b))) := rfl
@[simp ↓] theorem oNotB_eq {x y : Kd × D} {q : Kd × D → Prop} : oNotB x y q = blK2 x.2 y.2 fun a b => q (.fz, .bl (!decide (a = b))) := rfl
/-! ### lists of owned things -/
/-- [], its items to be held as m -/
def wEmp (m : Md) : DE (Kd × D) := fun ρ P => P.ok [] (.new (.L m), .lst []) ρ
@[simp ↓] theorem wEmp_eq {m : Md} {P : Po (Kd × D)} : wEmp m ρ P = P.ok [] (.new (.L m), .lst []) ρ := rfl
/-- xs.append(e): e is nobody's else -/
def appK (r x : Kd × D) (q : Nat → List Nat → D → Prop) : Prop := match r, x with
  | (.bor i p (.L m), .lst ds), (.new m', d) => m' = m ∧ small (ds.length + 1) = true ∧ q i p (.lst (ds ++ [d]))
  | _, _ => False
@[simp ↓] theorem appK_eq {i : Nat} {p : List Nat} {m m' : Md} {ds : List D} {d : D} {q : Nat → List Nat → D → Prop} : appK (.bor i p (.L m), .lst ds) (.new m', d) q = (m' = m ∧ small (ds.length + 1) = true ∧ q i p (.lst (ds ++ [d]))) := rfl
def wApp (wr we : DE (Kd × D)) : DE (Kd × D) := fun ρ P => wr ρ ⟨fun p1 x ρ1 => isL x.2 = true ∧ we ρ1 ⟨fun p2 y ρ2 => hold x.1 p2 = true ∧ appK x y fun i p d' => P.ok (p1 ++ (p2 ++ [i])) (.fz, .non) (setAt ρ2 i p d'), P.ex⟩, P.ex⟩
@[simp ↓] theorem wApp_eq {wr we : DE (Kd × D)} {P : Po (Kd × D)} : wApp wr we ρ P = wr ρ ⟨fun p1 x ρ1 => isL x.2 = true ∧ we ρ1 ⟨fun p2 y ρ2 => hold x.1 p2 = true ∧ appK x y fun i p d' => P.ok (p1 ++ (p2 ++ [i])) (.fz, .non) (setAt ρ2 i p d'), P.ex⟩, P.ex⟩ := rfl
theorem RA.snoc {m : Md} : ∀ {vs : List V} {ds : List D} {fp : List Addr} {v : V} {d : D} {fq : List Addr}, RA K G H m vs ds fp → R K G H m v d fq → RA K G H m (vs ++ [v]) (ds ++ [d]) (fp ++ fq)
  | _, _, _, _, _, fq, .nil, r => by
    have := RA.cons r (RA.nil (K := K) (G := G) (H := H) (m := m))
    rw [List.append_nil] at this
    exact this
  | _, _, _, _, _, _, .cons h t, r => by
    rw [List.append_assoc]
    exact .cons h (RA.snoc t r)
@[simp ↓] theorem dSet_l {ds : List D} {j : Nat} {x : D} : dSet (.lst ds) [j] x = .lst (ds.set j x) := by
  unfold dSet dKid
  cases e : ds[j]? with
  | none =>
    simp only [e]
    rw [List.set_eq_of_length_le (by simpa using e)]
  | some y =>
    simp only [e]
    unfold dSet setKid
    rfl
@[simp ↓] theorem wPar_eq {i j : Nat} {wa : DE (List (Kd × D))} {E : En} : wPar i j wa E ρ = wa ρ ⟨fun _ xs ρ' => par2 i j xs ρ' E.nx, E.ex⟩ := rfl
@[simp ↓] theorem par2_eq {i j : Nat} {d e : D} {q : Rho → Prop} : par2 i j [(.fz, d), (.fz, e)] ρ q = stK i (.F, d) ρ fun ρ => stK j (.F, e) ρ q := by
  unfold par2 stK
  rfl
@[simp ↓] theorem oStr_i {k : Kd} {i : Int} {q : Kd × D → Prop} : oStr [(k, .int i)] q = (i.natAbs.log2 < 1920 ∧ q (.fz, .str (toString i))) := rfl
end
end VL

namespace VLN
open PySem Sem Builtin Builtin.Str
open AutoSeq1 (wpAny_loadPart')
section
variable {prog : Program} {w : World} {A : Around} {E : Value → Shared → Prop} {s : Shared}
end
end VLN
namespace VLN2
open PySem PySem.Spec PyProof.Rows L2
def IteT (K : PySem.W.Frag) (a : Addr) : It :=
  ⟨fun i H => ∃ (xs : List V) (x : V), SqT K H a xs ∧ xs[i]? = some x, fun i H v H' => ∃ T x, v = .ref T ∧ H T = none ∧ H' = upd H T (.tup [.int (i : Nat), x]) ∧ ∀ xs, SqT K H a xs → xs[i]? = some x, fun i H => ∃ xs : List V, SqT K H a xs ∧ xs.length ≤ i⟩
def iEnumT (K : PySem.W.Frag) (ta : TA) : TI := fun σ H R => ta σ H fun vs H1 => ∃ a xs, vs = [.ref a] ∧ SqT K H1 a xs ∧ R (IteT K a) H1
end VLN2
namespace VL
open PySem PySem.Spec PyProof.Rows L2
section
variable {K : PySem.W.Frag} {W : WX} {G G' H H' H0 : Hp} {σ : L2.St} {ρ : Rho} {X : Cx} {S S0 S1 T T1 T2 U : Sta} {E : En} {Z : Ends}
def isT1 (xs : List (Kd × D)) (q : List D → Prop) : Prop := match xs with
  | [(.fz, .tup ds)] => q ds
  | _ => False
@[simp ↓] theorem isT1_eq {ds : List D} {q : List D → Prop} : isT1 [(.fz, .tup ds)] q = q ds := rfl
/-- enumerate(tuple) -/
def wEnumT (wa : DE (List (Kd × D))) : DE (List D) := fun ρ P => wa ρ ⟨fun p xs ρ' => isT1 xs fun ds => P.ok p (enumD ds) ρ', P.ex⟩
@[simp ↓] theorem wEnumT_eq {wa : DE (List (Kd × D))} {P : Po (List D)} : wEnumT wa ρ P = wa ρ ⟨fun p xs ρ' => isT1 xs fun ds => P.ok p (enumD ds) ρ', P.ex⟩ := rfl
/-- xs.insert(i, y) -/
def mIns : OM := fun ds es q => match es with
  | [.int i, x] => small (ds.length + 1) = true ∧ (0 ≤ i ∧ i < 1000000000) ∧ q (ds.take i.toNat ++ [x] ++ ds.drop i.toNat) .non
  | _ => False
@[simp ↓] theorem mIns_eq {ds : List D} {i : Int} {x : D} {q : List D → D → Prop} : mIns ds [.int i, x] q = (small (ds.length + 1) = true ∧ (0 ≤ i ∧ i < 1000000000) ∧ q (ds.take i.toNat ++ [x] ++ ds.drop i.toNat) .non) := rfl
abbrev rIns : V → List V → Hp → VK → Prop := fun x vs H Q => ∃ (l : Addr) (xs : List V) (i : Int) (y : V), x = .ref l ∧ vs = [.int i, y] ∧ H l = some (.lst xs) ∧ xs.length < sizeLine ∧ 0 ≤ i ∧ i < 2 ^ 63 ∧
    Q .non (upd H l (.lst (xs.take i.toNat ++ [y] ++ xs.drop i.toNat)))
end
end VL

namespace VL
open PySem PySem.Spec PyProof.Rows L2
section
variable {K : PySem.W.Frag} {W : WX} {G G' H H' H0 : Hp} {σ : L2.St} {ρ : Rho} {f f' : Own} {pin : Nat → Option V} {X : Cx} {S S0 S1 T T1 T2 U : Sta} {E : En} {Z : Ends}
/-! ### comprehensions of owned things -/
def lcTurnO (m : Md) (g : DG) (t : DE Bool) (we : DE (Kd × D)) (vs q : List Nat) (d : D) (acc : List D) (ρ : Rho) (N : List D → Rho → Prop) : Prop :=
  g d ρ fun ρ3 => t ρ3 ⟨fun p4 b ρ4 => subL p4 q = true ∧ match b with
    | true => we ρ4 ⟨fun p5 x ρ5 => (subL p5 q = true ∧ x.1 = .new m ∧ small (acc.length + 1) = true) ∧ N (acc ++ [x.2]) (wipeR ρ5 vs), noEx⟩
    | false => N acc (wipeR ρ4 vs), noEx⟩
def wLcO (m : Md) (w : DE (List D)) (g : DG) (t : DE Bool) (we : DE (Kd × D)) (vs q : List Nat) : DE (Kd × D) := fun ρ P => w ρ ⟨fun p ds ρ1 => ∃ I : Nat → List D → Rho → Prop, I 0 [] (wipeR ρ1 vs) ∧
  (∀ i d acc ρ2, ds[i]? = some d → I i acc ρ2 → lcTurnO m g t we vs q d acc ρ2 (I (i + 1))) ∧ (∀ acc ρ2, I ds.length acc ρ2 → P.ok (p ++ (vs ++ q)) (.new (.L m), .lst acc) ρ2), P.ex⟩
section
variable {elt tg iter : Expr} {ifs : List Expr} {scope : Scope} {own : List (Str × Nat)} {pos : Pos} {wi : DE (List D)} {g : DG} {t : DE Bool} {we : DE (Kd × D)}
end
def lcKO (m : Md) (ds : List D) (g : DG) (t : DE Bool) (we : DE (Kd × D)) (vs q : List Nat) (ρ : Rho) (Z : List D → Rho → Prop) : Prop := ∃ I : Nat → List D → Rho → Prop, I 0 [] ρ ∧
  (∀ i d acc ρ2, ds[i]? = some d → I i acc ρ2 → lcTurnO m g t we vs q d acc ρ2 (I (i + 1))) ∧ (∀ acc ρ2, I ds.length acc ρ2 → Z acc ρ2)
@[simp ↓] theorem wLcO_eq {m : Md} {w : DE (List D)} {g : DG} {t : DE Bool} {we : DE (Kd × D)} {vs q : List Nat} {ρ : Rho} {P : Po (Kd × D)} : wLcO m w g t we vs q ρ P = w ρ ⟨fun p ds ρ1 => lcKO m ds g t we vs q (wipeR ρ1 vs) fun acc ρ2 => P.ok (p ++ (vs ++ q)) (.new (.L m), .lst acc) ρ2, P.ex⟩ := rfl
@[simp ↓] theorem lcTurnO_eq {m : Md} {g : DG} {t : DE Bool} {we : DE (Kd × D)} {vs q : List Nat} {d : D} {acc : List D} {ρ : Rho} {N : List D → Rho → Prop} : lcTurnO m g t we vs q d acc ρ N = g d ρ fun ρ3 => t ρ3 ⟨fun p4 b ρ4 => subL p4 q = true ∧ ifK b (we ρ4 ⟨fun p5 x ρ5 => (subL p5 q = true ∧ x.1 = .new m ∧ small (acc.length + 1) = true) ∧ N (acc ++ [x.2]) (wipeR ρ5 vs), noEx⟩) (N acc (wipeR ρ4 vs)), noEx⟩ := by
  unfold lcTurnO
  congr 1
  funext ρ3
  congr 2
  funext p b ρ4
  cases b <;> rfl
end
end VL

/-! try: .. except C as e: y = e -- and y is asked later -/
namespace VLX
open PySem PySem.Spec PyProof.Rows L2
section
variable {X : Cx} {pins : List (Addr × Obj)} {σ : L2.St} {H : Hp} {s : Shared}
theorem track {a : Addr} {oe : Obj} {cls : Value} (I : Inv (X.suite a ((a, oe) :: (X.pn ++ pins))) [] σ H s) (ok : X.Ok) (hz : Zc cls none oe) (hd : ∃ vs, oe.data = .fields vs) (fr : ∀ b o, X.s_0.heap.get? b = some o → b ∉ X.ex → b ≠ a) (fp : ∀ p ∈ X.pn ++ pins, p.1 ≠ a) :
    Inv X pins σ (upd H a (VL.ExK cls a)) s := by
  obtain ⟨get, hn, nL, nF, nc⟩ := I.pin (a, oe) (by rw [List.append_nil]; exact List.mem_cons_self)
  have I0 : Inv X pins σ H s := I.unsuite ok
  obtain ⟨vs, hd⟩ := hd
  have new : ObjOk X.prog X.w (upd H a (VL.ExK cls a)) s.heap a (VL.ExK cls a) := ⟨⟨oe, vs, get, hz, hd⟩, ⟨oe, get⟩, fun _ _ ⟨o, v, q, r⟩ k => ⟨o, v, k o q, r⟩⟩
  refine ⟨ok, I0.os, I0.bare, ⟨I0.base.keep, I0.base.slot, fun b o e n hx => ?_, I0.base.there, fun b xs e => ?_, fun b o u e => ?_, fun b ps e => ?_⟩, I0.loc, I0.cell, ?_, fun x c e => ?_, fun p hp => ?_, I0.hok.laidN (fun _ _ e => e) hn new, I0.len⟩
  · rw [upd_ne (fr b o e hx)]; exact I0.base.free b o e n hx
  · have z := I0.base.tups b xs e
    rw [upd_ne (ne_of_none z hn)]; exact z
  · have z := I0.base.frzs b o u e
    rw [upd_ne (ne_of_none z hn)]; exact z
  · obtain ⟨more, z⟩ := I0.base.tbls b ps e
    exact ⟨more, by rw [upd_ne (ne_of_none z hn)]; exact z⟩
  · rw [upd_ne fun z => nL z.symm]; exact I0.free
  · have nca : c ≠ a := fun z => by
      obtain ⟨v, hv⟩ := I0.cell x c e
      rw [z] at hv
      obtain ⟨o, ho, hc⟩ := hv
      rw [get] at ho
      cases ho
      rw [hd] at hc
      cases hc
    rw [upd_ne nca]; exact I0.freeC x c e
  · obtain ⟨p1, p2, p3⟩ := I0.pin p hp
    exact ⟨p1, by rw [upd_ne (fp p hp)]; exact p2, p3⟩
end
/-- what is wished of an exception of the body: of the class c, it is kept in slot j, and the code goes on -/
def wKeep (K : PySem.W.Frag) (c : Value) (i j : Nat) (Wout : WX) (D : Ends) : WX := fun cls d σ H =>
  ∃ b, PySem.W.exmOne K cls c = some b ∧ (b = true → d = none ∧ ∀ a, H a = none → D.nx (((σ.set i (some (.ref a))).set j (some (.ref a))).set i none) (upd H a (VL.ExK cls a))) ∧ (b = false → Wout cls d σ H)
/-- y = e, e in slot i -/
def tCopy (i j : Nat) : TS := fun D σ H => ∃ v, σ[i]? = some (some v) ∧ D.nx (σ.set j (some v)) H
section
variable {X : Cx} {x n : Str} {c : Value} {i j : Nat} {body suite : List Stmt} {b₀ : Stmt} {np pos pos' : Pos} {tb : WX → TS} {Wout : WX}
theorem ps_try_keep (hs : X.stack = X.env :: X.outer) (hf : X.env.frame = some X.env.locals) (hN : X.N.Nodup) (hi : X.N[i]? = some n) (hln : X.env.kindOf n = some .local) (hc : Names X x c) (tk : Takes X Wout)
    (hb : ∀ (W : WX) (pn : List (Addr × Obj)) (xe : Value → Shared → Prop), Takes (X.tr pn xe) W → PassesOwn (model X.prog X.w) X.A X.env xe → PSs (X.tr pn xe) body (tb W))
    (hsu : ∀ (a : Addr) (oe : Obj) (pn : List (Addr × Obj)), PSs (X.suite a ((a, oe) :: pn)) (b₀ :: suite) (tCopy i j)) :
    PS X (.Try body [.ExceptHandler (some (.Name x np)) (some n) (b₀ :: suite) pos'] [] [] pos) (fun D σ H => tb (wKeep X.K c i j Wout D) D σ H) := by
  refine ⟨fun pins s σ H D I h => ?_⟩
  have ok := I.ok
  have hfr : X.A.frames = some (X.env :: X.outer) := by rw [ok.frames, hs]
  have hloc : Loc X.env.scope n := .inl hln
  refine wpAny_Try_except ?_
  refine wpAny_mono ((hb (wKeep X.K c i j Wout D) (X.pn ++ pins) (fun e s₁ => wpAny (model X.prog X.w) X.A (noteFrame e X.env) (fun _ s₂ => wpAny (model X.prog X.w) X.A (setFlight e none) (fun _ s₃ =>
    wpAny (model X.prog X.w) X.A (handleBy e X.env [.ExceptHandler (some (.Name x np)) (some n) (b₀ :: suite) pos']) (SP X pins D) X.xe s₃) X.xe s₂) X.xe s₁) (fun u s' xx => ?_) PassesOwn.looking).run [] s σ H D (I.toTry _) h) (fun f s1 hsp => ?_) (fun e s1 he => he)
  · obtain ⟨a, B, sI, pins', σ', H', cls, d, rfl, J', nb, up, sky, na, os, ag, b, hb1, hyes, hno⟩ := xx
    have J : Inv X pins σ' H' sI := J'.ofTry ok
    have sky' : Sky B (X.env :: X.outer) a (Zc cls d) X.env.locals s'.heap := by rw [← hs]; exact sky
    have hBa : B.get? a = none := by
      rcases sky' with q | q | q
      · exact q.2.1
      · exact q.2.1
      · exact q.2.1
    show wpAny (model X.prog X.w) X.A (noteFrame (.ref a) X.env) _ _ _
    refine Sky.land Zc.steady hfr hf sky' fun h3 fl3 up3 => ?_
    have J3 : Inv X pins σ' H' { s' with heap := h3 } := J.landed nb fl3.1 (up.trans up3) os ag
    obtain ⟨oe3, vs3, he3, hz3, hd3⟩ := fl3.there
    have notFr : ∀ {h : Heap} {o : Obj} {vs : Array Value}, h.FunFrames B (X.env :: X.outer) → h.get? a = some o → o.data = .fields vs → a ∉ frs (X.env :: X.outer) := fun {h o vs} ff e dd hm => by
      obtain ⟨_, o', e', hnf⟩ := ff.mem hm
      rw [e] at e'; cases e'
      exact hnf _ dd
    have nfr := notFr fl3.2.2.1 he3 hd3
    have nL : a ≠ X.env.locals := fun z => nfr (List.mem_filterMap.mpr ⟨X.env, List.mem_cons_self, by rw [hf, z]⟩)
    have nF : a ∉ X.fs := fun hm => by
      obtain ⟨e, he, q⟩ := List.mem_filterMap.mp hm
      exact nfr (List.mem_filterMap.mpr ⟨e, List.mem_cons_of_mem _ he, q⟩)
    have noI : ∀ b o, sI.heap.get? b = some o → b ≠ a := fun b o e z => by
      subst z
      have := nb b o e (by rw [hs]; exact nfr)
      rw [hBa] at this
      cases this
    have S3 := J3.suite he3 hd3 na nL nF
    refine wpAny_handleBy_cons (codeAny_handlers_test ?_) (by intro q; cases q)
    have LT : PySem.W.Looks (model X.prog X.w) h3 (typeOf (.ref a)) cls := fun A Q E s k q => wpAny_typeOf_ref (k _ _ he3) (by rw [hz3.1]; exact q)
    have LM := PySem.W.exm_one (M := model X.prog X.w) (J3.kIn) LT hb1
    have test : ∀ {Q : Value → Shared → Prop} {E : Value → Shared → Prop}, Q c { s' with heap := h3 } → wpAny (model X.prog X.w) (X.A.mark (some (.ref a))) (eval (.Name x np) X.env) Q E { s' with heap := h3 } := fun {Q E} q => by
      obtain ⟨hg, hdbg, hm | ⟨hm, hv, hnn⟩⟩ := hc
      · exact ld_glob (X := X.suite a ((a, oe3) :: (X.pn ++ pins))) S3 hg hm q hdbg
      · exact ld_blt (X := X.suite a ((a, oe3) :: (X.pn ++ pins))) S3 hg hm hv q hnn hdbg
    refine test (LM.here ?_)
    cases b with
    | true =>
      obtain ⟨rfl, hy2⟩ := hyes rfl
      refine codeAny_handlers_suite_as ?_
      refine HandSPX.lands_againZ fl3 fun h4 fl4 up4 => ?_
      have J4 : Inv X pins σ' H' { s' with heap := h4 } := J.landed nb fl4.1 ((up.trans up3).trans up4) os ag
      obtain ⟨oe4, vs4, he4, hz4, hd4⟩ := fl4.there
      have S4 := J4.suite he4 hd4 na nL nF
      refine store_ok (X := X.suite a ((a, oe4) :: (X.pn ++ pins))) (v := .ref a) S4 hN hi hloc rfl (fun s5 S5 => ?_) (.inr hln)
      have hil : i < σ'.length := by
        have := (List.getElem?_eq_some_iff.mp hi).1
        have h2 : σ'.length = X.N.length := S4.len
        omega
      refine wpAny_mono ((hsu a oe4 (X.pn ++ pins)).run [] s5 _ H' { nx := fun σ6 H6 => σ6 = (σ'.set i (some (.ref a))).set j (some (.ref a)) ∧ H6 = H', rt := fun _ _ => False, bk := fun _ _ => False, ct := fun _ _ => False } S5 ⟨.ref a, List.getElem?_set_self hil, rfl, rfl⟩) (fun f s6 hsp => ?_) (fun _ _ z => False.elim z)
      cases f with
      | next =>
        obtain ⟨σ6, H6, S6, q6, q7⟩ := hsp
        subst q7
        have T6 : Inv X pins σ6 (upd H6 a (VL.ExK cls a)) s6 := track S6 ok hz4 ⟨_, hd4⟩ (fun b o e hx => by
          obtain ⟨o', e'⟩ := J.base.there b o e hx
          exact noI b o' e') fun p hp => noI _ _ (J.pin p hp).1
        refine gone_ok T6 hN hi hln fun s7 J7 => ⟨_, _, J7, ?_⟩
        rw [q6]
        exact hy2 a na
      | brk =>
        obtain ⟨σ6, H6, S6, q6⟩ := hsp
        exact q6.elim
      | cont =>
        obtain ⟨σ6, H6, S6, q6⟩ := hsp
        exact q6.elim
      | ret u =>
        obtain ⟨v6, σ6, H6, S6, r6, q6⟩ := hsp
        exact q6.elim
    | false =>
      show wpAny _ X.A (handleBy (.ref a) X.env []) _ _ _
      refine wpAny_handleBy_nil ?_
      obtain ⟨k1, k2, k3, oe, vs, T, oT, ts', he, hz, hd, h1, hr⟩ := id fl3
      unfold PySem.passOn
      refine wpAny_bind (wpAny_field he hd h1 ?_)
      rw [if_neg (show ¬ ((Value.ref T == Value.none) = true) from by simp)]
      have fin : wpAny (model X.prog X.w) X.A (setFlight (.ref a) X.env.frame) (fun _ s4 => wpAny (model X.prog X.w) X.A (throw (.ref a) : Sem Flow) (SP X pins D) X.xe s4) X.xe { s' with heap := h3 } := by
        rw [hf]
        refine HandSPX.setFlight_upZ fl3 fun h4 hh4 up4 => wpAny_throw (tk _ _ ?_)
        exact ⟨a, B, sI, pins, σ', H', cls, d, rfl, J, nb, (up.trans up3).trans up4, .inr (.inr (by rw [hs]; exact hh4)), na, os, ag, hno rfl⟩
      first
        | exact wpAny_bind (wpAny_pure (wpAny_bind fin))
        | exact wpAny_bind fin
  · cases f with
    | next =>
      obtain ⟨σ', H', J', q⟩ := hsp
      exact wpAny_execs_nil ⟨σ', H', J'.ofTry ok, q⟩
    | brk =>
      obtain ⟨σ', H', J', q⟩ := hsp
      exact ⟨σ', H', J'.ofTry ok, q⟩
    | cont =>
      obtain ⟨σ', H', J', q⟩ := hsp
      exact ⟨σ', H', J'.ofTry ok, q⟩
    | ret u =>
      obtain ⟨v, σ', H', J', r, q⟩ := hsp
      exact ⟨v, σ', H', J'.ofTry ok, r, q⟩
end
end VLX
namespace VLX
open PySem PySem.Spec PyProof.Rows L2
/-- isinstance of a kept exception -/
def rIsK (K : PySem.W.Frag) : List V → Hp → VK → Prop := fun xs H Q => ∃ (a D : Addr) (c : V) (cv : Value) (b : Bool), xs = [.ref a, c] ∧ H a = some (VL.ExK (.ref D) a) ∧ ExcC K D ∧ (∀ u, RelV c u → u = cv) ∧ PySem.W.kitOne K (.ref D) cv = some b ∧ Q (.bl b) H
theorem call_isK {X : Cx} : CallR X (.builtin "isinstance") (rIsK X.K) := by
  intro pins s σ H xs us Q I r h
  obtain ⟨a, D, c, cv, b, rfl, hH, C, hcv, e, q⟩ := h
  cases r with
  | cons rx rr =>
    cases rr with
    | cons rt rr =>
      cases rr
      cases rx
      have ec := hcv _ rt
      subst ec
      obtain ⟨⟨oe, vs, hget, hz, hv⟩, _, _⟩ := I.hok a _ hH
      have J : PySem.W.InstAt s.heap a oe D none := by
        obtain ⟨oc, od, oda, osl⟩ := oe
        obtain ⟨h1, h2⟩ := hz
        dsimp only at h1 h2 hv
        subst h1 h2 hv
        exact ⟨hget, rfl, rfl, trivial⟩
      exact PySem.W.kia_one (PySem.W.handS_kitx_exc C.hg C.hk C.hs C.hd C.ha C.hn C.ht C.hm) I.kIn J e (fun z => nomatch z) fun tk => ⟨.bl b, H, I.kept (t' := tk) fun _ _ z => z, rfl, q⟩
end VLX
namespace VL
open PySem PySem.Spec PyProof.Rows L2
section
variable {K : PySem.W.Frag} {W : WX} {G G' H H' H0 : Hp} {σ : L2.St} {ρ : Rho} {f f' : Own} {pin : Nat → Option V} {X : Cx} {S S0 S1 T T1 T2 U : Sta} {E : En} {Z : Ends}
/-- isinstance(x, c), x an exception of the class C -/
def wIsK (C : Addr) (b : Bool) (we : DE (Kd × D)) : DE (Kd × D) := fun ρ P => we ρ ⟨fun p x ρ' => x = (.fz, .exc C) ∧ P.ok p (.fz, .bl b) ρ', P.ex⟩
@[simp ↓] theorem wIsK_eq {C : Addr} {b : Bool} {we : DE (Kd × D)} {P : Po (Kd × D)} : wIsK C b we ρ P = we ρ ⟨fun p x ρ' => x = (.fz, .exc C) ∧ P.ok p (.fz, .bl b) ρ', P.ex⟩ := rfl
theorem te_isK {C : Addr} {b : Bool} {c : V} {cv : Value} {we : DE (Kd × D)} {Q : VK} (hC : ExcC K C) (hc : ∀ u, RelV c u → u = cv) (hk : PySem.W.kitOne K (.ref C) cv = some b) (h : te K W (wIsK C b we) σ H Q) : tCB (VLX.rIsK K) (tCons (te K W we) (tCons (tC c) tNil)) σ H Q := by
  obtain ⟨S, P, rfl, rfl, ok, w, k, ex⟩ := h
  refine ⟨S, _, rfl, rfl, ok, w, fun p x T' e es okT t tc v hv => ?_, ex⟩
  obtain ⟨rfl, q⟩ := e
  have hv : Dt K T'.G v (.exc C) := hv
  cases hv with
  | exc hG => exact ⟨_, C, c, cv, b, rfl, okT.ext _ _ hG, hC, hc, hk, k _ _ T' q es okT t tc _ (.bl _)⟩
theorem q_isK {C : Addr} {b : Bool} {x : Str} {e : Expr} {we : DE (Kd × D)} {p p2 pos : Pos} {c : Addr} (hC : ExcC X.K C) (hk : PySem.W.kitOne X.K (.ref C) (.ref c) = some b) (hm : X.mg "isinstance" = none) (hmc : X.mg x = some (.ref c)) (he : PE X e (te X.K W we)) (hg : Gl X "isinstance" := by rfl) (hgT : Gl X x := by rfl)
    (hdb : (x == ("__debug__" : Str)) = false := by decide) (hs : starEach [e, .Name x p2] X.env = (false, eval e X.env) :: starEach [.Name x p2] X.env := by rfl) (hs2 : starEach [.Name x p2] X.env = (false, eval (.Name x p2) X.env) :: starEach [] X.env := by rfl) (hpl : (backTo pos (starEach [.Name x p2] X.env)).any (·.1) = false := by rfl) :
    PE X (.Call (.Name "isinstance" p) [e, .Name x p2] [] pos) (te X.K W (wIsK C b we)) :=
  PE.imp (pe_callB VLX.call_isK hg hm (by rfl) (pa_cons he (pa_cons (pe_glob (v := .ref c) hgT hmc rfl hdb) pa_nil hs2) hs) (by decide) (by decide) hs hpl) fun _ _ _ h => te_isK hC (fun u r => r) hk h
theorem q_isKT (T : String) {C : Addr} {b : Bool} {x : Str} {e : Expr} {we : DE (Kd × D)} {p p2 pos : Pos} (hC : ExcC X.K C) (hk : PySem.W.kitOne X.K (.ref C) (.type T) = some b) (hm : X.mg "isinstance" = none) (hmT : X.mg x = none) (he : PE X e (te X.K W we)) (hv : bootBuiltins x = some (.type T) := by rfl) (hg : Gl X "isinstance" := by rfl) (hgT : Gl X x := by rfl)
    (hn : x ≠ "__name__" := by decide) (hdb : (x == ("__debug__" : Str)) = false := by decide) (hs : starEach [e, .Name x p2] X.env = (false, eval e X.env) :: starEach [.Name x p2] X.env := by rfl) (hs2 : starEach [.Name x p2] X.env = (false, eval (.Name x p2) X.env) :: starEach [] X.env := by rfl) (hpl : (backTo pos (starEach [.Name x p2] X.env)).any (·.1) = false := by rfl) :
    PE X (.Call (.Name "isinstance" p) [e, .Name x p2] [] pos) (te X.K W (wIsK C b we)) :=
  PE.imp (pe_callB VLX.call_isK hg hm (by rfl) (pa_cons he (pa_cons (pe_bltn (v := .ty T) hgT hmT hv rfl hn hdb) pa_nil hs2) hs) (by decide) (by decide) hs hpl) fun _ _ _ h => te_isK hC (fun u r => r) hk h
/-- raise C('..') -/
def wRaise (C : Addr) : DS := fun E ρ => E.ex C [] ρ
@[simp ↓] theorem wRaise_eq {C : Addr} : wRaise C E ρ = E.ex C [] ρ := rfl
/-- what is asked of a class of exceptions that is raised -/
structure RsC (K : PySem.W.Frag) (C : Addr) : Prop where
  ex : PySem.W.excIn K C [.type "ValueError", .type "Exception", .type "BaseException", .type "object"] "ValueError.__new__" = true
  sb : PySem.W.subIn K (.ref C) (.type "BaseException") = some true
  ty : PySem.W.typeIn K (.ref C) = some (.type "type")
  kp : PySem.W.keepIn K (.ref C) = true
theorem q_raise {C : Addr} {x m : Str} {j : Nat} {p p2 pos pos' : Pos} (h : RsC X.K C) (hm : X.mg x = some (.ref C)) (hc : X.calm = true) (tk : Takes X W) (hg : Gl X x := by rfl) (hdb : (x == ("__debug__" : Str)) = false := by decide) :
    PS X (.Raise (some (.Call (.Name x p) [.Constant (.str m) j p2] [] pos)) none pos') (ts X.K W (wRaise C)) :=
  PS.imp (ps_raise hc tk (pmk_own PySem.F.excBase_ValueError h.ex hm h.kp (raises_own h.sb h.ty) hg hdb)) fun _ _ _ h => by
    obtain ⟨S, E, rfl, rfl, ok, w, l⟩ := h
    exact l.ex C [] S w ok (Sta.refl S) none (.inl ⟨rfl, rfl⟩)
/-- try: b / except .. as e: y = e -/
def wTryK (i j : Nat) (C : Addr) (b : DS) : DS := fun E ρ => b { E with ex := fun C' fl ρ' => (C' = C ∧ fl = []) ∧ ρ'[i]? = some none ∧ okSlot ρ' j = true ∧ E.nx (ρ'.set j (some (.F, .exc C))) } ρ
@[simp ↓] theorem wTryK_eq {i j : Nat} {C : Addr} {b : DS} : wTryK i j C b E ρ = b { E with ex := fun C' fl ρ' => (C' = C ∧ fl = []) ∧ ρ'[i]? = some none ∧ okSlot ρ' j = true ∧ E.nx (ρ'.set j (some (.F, .exc C))) } ρ := rfl
theorem ts_tryK {i j : Nat} {C : Addr} {c : Value} {b : DS} (hij : i ≠ j) (hx : PySem.W.exmOne K (.ref C) c = some true) (h : ts K W (wTryK i j C b) Z σ H) : ts K (VLX.wKeep K c i j W Z) b Z σ H := by
  obtain ⟨S, E, rfl, rfl, ok, w, l⟩ := h
  refine ⟨S, _, rfl, rfl, ok, w, ⟨l.nx, l.bk, l.ct, l.rt, fun C' fl T e okT t dd hd => ?_⟩⟩
  obtain ⟨⟨rfl, rfl⟩, hi, hj, e⟩ := e
  refine ⟨true, hx, fun _ => ⟨?_, fun a ha => ?_⟩, fun z => nomatch z⟩
  · rcases hd with ⟨_, rfl⟩ | ⟨a, fs, h0, _⟩
    · rfl
    · exact absurd rfl h0
  · have g : Grow T.G T.H (upd T.G a (ExK (.ref C') a)) (upd T.H a (ExK (.ref C') a)) := Grow.new okT.ext ha
    have ok1 := Sta.grow okT g
    have ok2 := Sx.put ok1 hj rfl (.F (.exc (C := C') upd_same)) List.nodup_nil fun _ h => nomatch h
    have tj := ((t.trans g.to).put (i := j) (v := .ref a) (m := .F) (d := .exc C') (fp := []) fun _ h => nomatch h)
    have ok3 := Sx.slots (τ := ((T.σ.set i (some (.ref a))).set j (some (.ref a))).set i none) ok2 (by simp; rfl) fun k x hk => by
      have hki : k ≠ i := fun z => by
        subst z
        have hk : (T.ρ.set j (some (Md.F, D.exc C')))[k]? = some (some x) := hk
        rw [List.getElem?_set_ne (Ne.symm hij), hi] at hk
        cases hk
      rw [List.getElem?_set_ne (Ne.symm hki)]
      by_cases hkj : k = j
      · subst hkj
        show ((T.σ.set i (some (.ref a))).set k (some (.ref a)))[k]? = (T.σ.set k (some (.ref a)))[k]?
        simp [List.getElem?_set]
      · rw [List.getElem?_set_ne (Ne.symm hkj), List.getElem?_set_ne (Ne.symm hki)]
        exact (List.getElem?_set_ne (Ne.symm hkj)).symm
    exact l.nx ⟨T.pin, upd T.G a (ExK (.ref C') a), upd T.H a (ExK (.ref C') a), ((T.σ.set i (some (.ref a))).set j (some (.ref a))).set i none, T.ρ.set j (some (.F, .exc C')), T.f.set j []⟩ e ok3 ⟨tj.stp, tj.pin⟩
theorem q_tryK {i j : Nat} {C : Addr} {c : Value} {x n y : Str} {b : DS} {body : List Stmt} {np pos pos' yp n2 ap : Pos} (hx : PySem.W.exmOne X.K (.ref C) c = some true) (hm : X.mg x = some c) (hN : X.N.Nodup) (tk : Takes X W)
    (hb : ∀ (W : WX) (pn : List (Addr × Obj)) (xe : Value → Shared → Prop), Takes (X.tr pn xe) W → PassesOwn (model X.prog X.w) X.A X.env xe → PSs (X.tr pn xe) body (ts X.K W b))
    (hi : X.N[i]? = some n := by rfl) (hj : X.N[j]? = some y := by rfl) (hij : i ≠ j := by decide) (hs : X.stack = X.env :: X.outer := by rfl) (hf : X.env.frame = some X.env.locals := by rfl) (hln : X.env.kindOf n = some .local := by rfl) (hg : Gl X x := by rfl) (hdb : (x == ("__debug__" : Str)) = false := by decide)
    (hsu : ∀ (a : Addr) (oe : Obj) (pn : List (Addr × Obj)), PS (X.suite a ((a, oe) :: pn)) (.Assign [.Name y yp] (.Name n n2) ap) (VLX.tCopy i j)) :
    PS X (.Try body [.ExceptHandler (some (.Name x np)) (some n) [.Assign [.Name y yp] (.Name n n2) ap] pos'] [] [] pos) (ts X.K W (wTryK i j C b)) :=
  PS.imp (VLX.ps_try_keep (tb := fun W => ts X.K W b) hs hf hN hi hln ⟨hg, hdb, .inl hm⟩ tk hb fun a oe pn => pss_one (hsu a oe pn)) fun _ _ _ h => ts_tryK hij hx h
theorem ps_copy {i j : Nat} {x y : Str} {pos pos' yp : Pos} (hN : X.N.Nodup) (hi : X.N[i]? = some x := by rfl) (hj : X.N[j]? = some y := by rfl) (hv : Vis X.env.scope x := by first | exact Or.inl rfl | exact Or.inr (Or.inl rfl) | exact Or.inr (Or.inr rfl)) (hd : (x == ("__debug__" : Str)) = false := by decide) (hcd : (x == ("__classdict__" : Str)) = false := by decide)
    (hx : Loc X.env.scope y := by first | exact Or.inl rfl | exact Or.inr rfl) (hs : swapsWith (.Name x pos) (some (.Name y yp)) pos'.line X.env = pure false := by rfl) (hf : X.fn y = true ∨ X.env.scope.names.lookup y = some .local := by first | exact .inl rfl | exact .inr rfl) : PS X (.Assign [.Name y yp] (.Name x pos) pos') (VLX.tCopy i j) :=
  PS.imp (ps_set hN hj hx (pe_var hi hv hd hcd) hs hf) fun _ _ _ h => h
end
end VL

/-! zip of a tuple and a list, either way round -/
namespace VL
open PySem PySem.Spec PyProof.Rows L2 RZ
/-- a side's iterator: of a tuple (true) or of a list -/
def Sd (h : Heap) (j l : Addr) (n : Nat) : Bool → Prop
  | true => h.IsTupleIter j l n
  | false => h.IsListIter j l n
def Sq (h : Heap) (l : Addr) (xs : Array Value) : Bool → Prop
  | true => h.IsTuple l xs
  | false => h.IsList l xs
theorem Sd.ext {h g : Heap} {j c l : Addr} {n : Nat} {b : Bool} (x : Sd h j l n b) (e : Heap.ExtBut c h g) (d : j ≠ c) : Sd g j l n b := by
  cases b
  · exact Heap.IsListIter.extBut x e d
  · exact Heap.IsTupleIter.extBut x e d
theorem Sq.ext {h g : Heap} {c l : Addr} {xs : Array Value} {b : Bool} (x : Sq h l xs b) (e : Heap.ExtBut c h g) (d : l ≠ c) : Sq g l xs b := by
  cases b
  · exact Heap.IsList.extBut x e d
  · exact Heap.IsTuple.extBut x e d
theorem Sd.up {h g : Heap} {j l : Addr} {n : Nat} {b : Bool} (x : Sd h j l n b) (e : ∀ o, h.get? j = some o → g.get? j = some o) : Sd g j l n b := by
  cases b
  · exact Heap.IsListIter.at x e
  · exact Heap.IsTupleIter.at x e
theorem Sd.has {h : Heap} {j l : Addr} {n : Nat} {b : Bool} (x : Sd h j l n b) : ∃ o, h.get? j = some o ∧ ∀ v, o.data ≠ .cell v := by
  cases b
  · obtain ⟨o, e, _, d⟩ := x
    exact ⟨o, e, fun v q => by rw [d] at q; cases q⟩
  · obtain ⟨o, e, _, d⟩ := x
    exact ⟨o, e, fun v q => by rw [d] at q; cases q⟩
section
variable {prog : Program} {w : World} {A : Around} {E : Value → Shared → Prop} {s : Shared}
theorem Sd.next {j l : Addr} {n : Nat} {xs : Array Value} {b : Bool} {x : Value} {Q : Value → Shared → Prop} (hj : Sd s.heap j l n b) (hl : Sq s.heap l xs b) (hx : xs[n]? = some x)
    (k : ∀ g, Sd g j l (n + 1) b → Heap.SameBut j s.heap g → Q x { s with heap := g }) : wpAny (model prog w) A (Builtin.SmallTypes.nextOf (.ref j)) Q E s := by
  cases b
  · exact wpAny_nextOf_list_item hj hl hx k
  · exact nextOf_tuple_item hj hl hx k
theorem Sd.stop {j l : Addr} {n : Nat} {xs : Array Value} {b : Bool} {Q : Value → Shared → Prop} (hh : A.handled = none) (hj : Sd s.heap j l n b) (hl : Sq s.heap l xs b) (hx : xs[n]? = none)
    (k : ∀ g e, Heap.ExtBut j s.heap g → (∃ o, g.get? e = some o ∧ o.cls = .type "StopIteration") → E (.ref e) { s with heap := g }) : wpAny (model prog w) A (Builtin.SmallTypes.nextOf (.ref j)) Q E s := by
  cases b
  · exact wpAny_nextOf_list_end hh hj hl hx k
  · exact nextOf_tuple_end hh hj hl hx k
variable {z p r i j l m : Addr} {n o : Nat} {xs ys : Array Value} {b c : Bool} {u v : Value}
end
/-- the heap once the zip is made -/
def itN (b : Bool) : String := if b then "tuple_iterator" else "list_iterator"
abbrev zm1 (h : Heap) (l : Addr) (b : Bool) : Heap := h.push { cls := .type (itN b), data := .fields #[.ref l, .int 0 0] }
abbrev zm2 (h : Heap) (l m : Addr) (b c : Bool) : Heap := (zm1 h l b).push { cls := .type (itN c), data := .fields #[.ref m, .int 0 0] }
abbrev zm3 (h : Heap) (l m : Addr) (b c : Bool) : Heap := (zm2 h l m b c).push { cls := .type "tuple", data := .seq #[.ref h.objs.size, .ref (zm1 h l b).objs.size] }
abbrev zm4 (h : Heap) (l m : Addr) (b c : Bool) : Heap := (zm3 h l m b c).push { cls := .type "tuple", data := .seq #[.none, .none] }
abbrev zm5 (h : Heap) (l m : Addr) (b c : Bool) : Heap := (zm4 h l m b c).push { cls := .type "zip", data := .fields #[.none, .bool false, .bool false, .ref (zm2 h l m b c).objs.size, .ref (zm3 h l m b c).objs.size] }
section
variable {prog : Program} {w : World} {A : Around} {E : Value → Shared → Prop} {s : Shared} {l m : Addr} {xs ys : Array Value} {b : Bool} {Q : Value → Shared → Prop}
end
/-! ### for the hand layer -/
/-- a tracked list (false) or tuple (true) -/
def SqA (K : PySem.W.Frag) (H : Hp) (a : Addr) (xs : List V) : Bool → Prop
  | true => SqT K H a xs
  | false => SqL K H a xs
def ItM (K : PySem.W.Frag) (a b : Addr) (c d : Bool) : It :=
  ⟨fun i H => ∃ (xs ys : List V) (x y : V), SqA K H a xs c ∧ SqA K H b ys d ∧ xs[i]? = some x ∧ ys[i]? = some y, fun i H v H' => ∃ T x y, v = .ref T ∧ H T = none ∧ H' = upd H T (.tup [x, y]) ∧ (∀ xs, SqA K H a xs c → xs[i]? = some x) ∧ ∀ ys, SqA K H b ys d → ys[i]? = some y, fun i H => ∃ xs ys : List V, SqA K H a xs c ∧ SqA K H b ys d ∧ (xs.length ≤ i ∨ ys.length ≤ i)⟩
section
variable {X : Cx} {pins : List (Addr × Obj)} {σ : L2.St} {H : Hp} {s : Shared}
theorem SqA.is {a : Addr} {xs : List V} {c : Bool} (I : Inv X pins σ H s) (h : SqA X.K H a xs c) : ∃ its : List Value, Vals xs its ∧ Sq s.heap a its.toArray c ∧ a < s.heap.objs.size := by
  cases c
  · obtain ⟨its, rv, p, _⟩ := I.list h
    exact ⟨its, rv, p.isList, p.lt⟩
  · obtain ⟨its, rv, p, _⟩ := I.tuple h
    obtain ⟨o, ho, _⟩ := id p
    exact ⟨its, rv, p, Heap.lt_size ho⟩
theorem SqA.one {a : Addr} {xs ys : List V} {c : Bool} (I : Inv X pins σ H s) (h : SqA X.K H a xs c) (g : SqA X.K H a ys c) : xs = ys := by
  cases c
  · exact I.list_inj h g
  · exact I.tuple_inj h g
end
/-- a zip of a list and a tuple (b: the first is the tuple) -/
def iZipM (K : PySem.W.Frag) (ta : TA) : TI := fun σ H R => ta σ H fun vs H1 => ∃ a b xs ys c, vs = [.ref a, .ref b] ∧ SqA K H1 a xs c ∧ SqA K H1 b ys (!c) ∧ R (ItM K a b c !c) H1
end VL

/-! zip of a tuple and a list at the value layer -/
namespace VL
open PySem PySem.Spec PyProof.Rows L2 RT RZ
section
variable {K : PySem.W.Frag} {W : WX} {G G' H H' H0 : Hp} {σ : L2.St} {ρ : Rho} {X : Cx}
def isM2 (xs : List (Kd × D)) (q : List D → List D → Prop) : Prop := match xs with
  | [(.fz, .lst ds), (.fz, .tup es)] => q ds es
  | [(.fz, .tup ds), (.fz, .lst es)] => q ds es
  | _ => False
def wZipM (wa : DE (List (Kd × D))) : DE (List D) := fun ρ P => wa ρ ⟨fun p xs ρ' => isM2 xs fun ds es => P.ok p (zipD ds es) ρ', P.ex⟩
@[simp ↓] theorem wZipM_eq {wa : DE (List (Kd × D))} {PL : Po (List D)} : wZipM wa ρ PL = wa ρ ⟨fun p xs ρ' => isM2 xs fun ds es => PL.ok p (zipD ds es) ρ', PL.ex⟩ := rfl
@[simp ↓] theorem isM2_l {ds es : List D} {q : List D → List D → Prop} : isM2 [(.fz, .lst ds), (.fz, .tup es)] q = q ds es := rfl
@[simp ↓] theorem isM2_t {ds es : List D} {q : List D → List D → Prop} : isM2 [(.fz, .tup ds), (.fz, .lst es)] q = q ds es := rfl
end
end VL

/-! facts about classes of exceptions, from the written part's own -/
namespace VL
open PySem PySem.Spec PyProof.Rows L2
theorem kcls_of {K : PySem.W.Frag} {E C : Addr} {b : Bool} (hc : PySem.W.isClsIn K C = true) (ht : PySem.W.typeIn K (.ref C) = some (.type "type")) (hs : PySem.W.subIn K (.ref E) (.ref C) = some b) : PySem.W.kitCls K (.ref E) (.ref C) = some b := by
  have hc : (PySem.W.clsIn K C).isSome = true := hc
  unfold PySem.W.kitCls
  simp only [hc, ht]
  simpa using hs
theorem kone_of {K : PySem.W.Frag} {E C : Addr} {b : Bool} (hc : PySem.W.isClsIn K C = true) (ht : PySem.W.typeIn K (.ref C) = some (.type "type")) (hs : PySem.W.subIn K (.ref E) (.ref C) = some b) (hh : PySem.W.subIn K (.ref C) (.ref C) = some true) : PySem.W.kitOne K (.ref E) (.ref C) = some b := by
  unfold PySem.W.kitOne
  by_cases e : E = C
  · subst e
    rw [hh] at hs
    simp only [beq_self_eq_true, if_true]
    exact hs
  · have : ((Value.ref E) == (Value.ref C)) = false := by simpa using e
    simp only [this]
    exact kcls_of hc ht hs
theorem kty_of {K : PySem.W.Frag} {E : Addr} {T : String} (hm : PySem.W.kitMeta T = true) (hs : PySem.W.subIn K (.ref E) (.type T) = some true) : PySem.W.kitOne K (.ref E) (.type T) = some true := by
  unfold PySem.W.kitOne
  have : ((Value.ref E) == (Value.type T)) = false := rfl
  simp only [this]
  show (if PySem.W.kitMeta T = true then _ else none) = _
  rw [if_pos hm]
  exact hs
theorem xm_of {K : PySem.W.Frag} {E C : Addr} {b : Bool} (hb : PySem.W.subIn K (.ref C) (.type "BaseException") = some true) (hc : PySem.W.isClsIn K C = true) (ht : PySem.W.typeIn K (.ref C) = some (.type "type")) (hs : PySem.W.subIn K (.ref E) (.ref C) = some b) : PySem.W.exmOne K (.ref E) (.ref C) = some b := by
  unfold PySem.W.exmOne
  rw [hb]
  simp only [beq_self_eq_true, if_true]
  exact kcls_of hc ht hs
theorem meta_VE : PySem.W.kitMeta "ValueError" = true := by decide +kernel
end VL

namespace My
open PySem PySem.Spec PyProof.Rows L2 VL
/-- the classes' places -/
structure Cs where
  C_Machine : Addr
  C_Run : Addr
  C_NoMachine : Addr
  C_NoShot : Addr
  C_TapeError : Addr
  C_NoNames : Addr
  C_NoNumber : Addr
  C_NoStretches : Addr
  C_TooLong : Addr
  C_NoShape : Addr
  C_NoMove : Addr
  C_NoWidth : Addr
  C_NoText : Addr
  C_Ribbon : Addr
/-! ### machines as plain things -/
/-- an entry: the sign written, whether to the right, the state that comes -/
abbrev Ent := Option (Int × Bool × Int)
abbrev Tab := List (List Ent)
def wayS (r : Bool) : Str := if r then "r" else "l"
def entD : Ent → D
  | none => .non
  | some (w, r, s) => .tup [.int w, .str (wayS r), .int s]
def rowL (r : List Ent) : D := .lst (r.map entD)
def rowT (r : List Ent) : D := .tup (r.map entD)
def tabL (t : Tab) : D := .lst (t.map rowL)
def tabT (t : Tab) : D := .tup (t.map rowT)
def EntOk (st sg : Nat) : Ent → Prop
  | none => True
  | some (w, _, s) => (0 ≤ w ∧ w < sg) ∧ 0 ≤ s ∧ s < st
structure TabOk (t : Tab) (st sg : Nat) : Prop where
  st0 : 0 < st
  sg0 : 0 < sg
  stS : st ≤ 1000
  sgS : sg ≤ 1000
  len : t.length = st
  row : ∀ r ∈ t, r.length = sg ∧ ∀ e ∈ r, EntOk st sg e
/-- cells that are not blank -/
abbrev Cells := List (Int × Int)
def cK (c : Cells) : List (Key × D) := c.map fun x => (.inl x.1, .int x.2)
def cD (c : Cells) : D := .dct (cK c)
def cGet (c : Cells) (p : Int) : Option Int := (c.find? fun x => decide (x.1 = p)).map (·.2)
def cAt (c : Cells) (p : Int) : Int := (cGet c p).getD 0
def cPut (c : Cells) (p s : Int) : Cells := if (c.any fun x => decide (x.1 = p)) = true then c.map (fun x => if x.1 = p then (x.1, s) else x) else c ++ [(p, s)]
def cDrop (c : Cells) (p : Int) : Cells := c.filter fun x => decide (x.1 ≠ p)
/-- a configuration: state, place, cells -/
structure Cf where
  q : Int
  p : Int
  c : Cells
def rowAt (t : Tab) (q : Int) : List Ent := t.getD q.toNat []
def entAt (t : Tab) (q s : Int) : Ent := (rowAt t q).getD s.toNat none
def stepC (t : Tab) (x : Cf) : Option Cf := match entAt t x.q (cAt x.c x.p) with
  | none => none
  | some (w, r, s) => some ⟨s, if r then x.p + 1 else x.p - 1, if w = 0 then cDrop x.c x.p else cPut x.c x.p w⟩
structure CfOk (x : Cf) (st sg : Nat) : Prop where
  q0 : 0 ≤ x.q
  q1 : x.q < st
  c0 : ∀ y ∈ x.c, 0 ≤ y.2 ∧ y.2 < sg
def runD (A : Cs) (t : Tab) (x : Cf) : D := .obj A.C_Run [("table", tabT t), ("state", .int x.q), ("place", .int x.p), ("cells", cD x.c)]
def machD (A : Cs) (t : Tab) : D := .obj A.C_Machine [("table", tabT t)]
/-- so many steps, or as many as there are -/
def runC (t : Tab) : Nat → Cf → Nat × Cf
  | 0, x => (0, x)
  | n + 1, x => match stepC t x with
    | none => (0, x)
    | some y => ((runC t n y).1 + 1, (runC t n y).2)
def cf0 : Cf := ⟨0, 0, []⟩
/-- a shot as the program tells it -/
def marksD (c : Cells) : D := .tup (c.map fun x => .tup [.int x.1, .int x.2])
def SortedOf (m c : Cells) : Prop := m.Perm c ∧ m.Pairwise fun a b => a.1 ≤ b.1
def shotD (q p : Int) (m : Cells) : D := .tup [.int q, .int p, marksD m]
/-! ### the promises -/
/-- whether a plain thing is a number below n -/
def numB (n : Int) : D → Bool
  | .int x => decide (0 ≤ x ∧ x < n)
  | _ => false
/-- a plain thing: no dict, no instance -/
def plB : D → Bool
  | .int _ => true
  | .bl _ => true
  | .non => true
  | .str _ => true
  | .tup _ => true
  | .lst _ => true
  | _ => false
def W_is_number (A : Cs) : DF := fun ds P => ∃ (d : D) (n : Int), ds = [d, .int n] ∧ plB d = true ∧ P.ok (.fz, .bl (numB n d)) ds
@[simp ↓] theorem W_is_number_eq {A : Cs} {x n : Int} {P : Pf} : W_is_number A [.int x, .int n] P = P.ok (.fz, .bl (decide (0 ≤ x ∧ x < n))) [.int x, .int n] := by
  apply propext
  constructor
  · rintro ⟨d, m, e, _, h⟩
    cases e
    exact h
  · exact fun h => ⟨_, _, rfl, rfl, h⟩
@[simp ↓] theorem W_is_number_bl {A : Cs} {b : Bool} {n : Int} {P : Pf} : W_is_number A [.bl b, .int n] P = P.ok (.fz, .bl false) [.bl b, .int n] := by
  apply propext
  constructor
  · rintro ⟨d, m, e, _, h⟩
    cases e
    exact h
  · exact fun h => ⟨_, _, rfl, rfl, h⟩
def W_entry_kept (A : Cs) : DF := fun ds P => ∃ (e : Ent) (st sg : Nat), ds = [entD e, .int st, .int sg] ∧ EntOk st sg e ∧ P.ok (.fz, entD e) ds
def W_Machine_init (A : Cs) : DF := fun ds P => ∃ (t : Tab) (st sg : Nat) (C : Addr), ds = [.obj A.C_Machine [], tabL t] ∧ TabOk t st sg ∧ P.ok (.fz, .non) [machD A t, tabL t]
def W_states_of (A : Cs) : DF := fun ds P => ∃ t : Tab, ds = [machD A t] ∧ P.ok (.fz, .int t.length) ds
def W_signs_of (A : Cs) : DF := fun ds P => ∃ (t : Tab) (st sg : Nat), ds = [machD A t] ∧ TabOk t st sg ∧ P.ok (.fz, .int sg) ds
/-- marks: signs within, places that rise -/
def MarksOk (sg : Nat) (m : Cells) : Prop := (∀ y ∈ m, 0 < y.2 ∧ y.2 < sg) ∧ m.Pairwise fun a b => a.1 < b.1
def ShotOk (st sg : Nat) (q : Int) (m : Cells) : Prop := (0 ≤ q ∧ q < st) ∧ MarksOk sg m
def W_ask_shot (A : Cs) : DF := fun ds P => ∃ (t : Tab) (st sg : Nat) (q p : Int) (m : Cells), ds = [machD A t, shotD q p m] ∧ TabOk t st sg ∧ ((ShotOk st sg q m ∧ P.ok (.fz, .non) ds) ∨ (¬ ShotOk st sg q m ∧ P.ex A.C_NoShot [] ds))
def W_Run_init (A : Cs) : DF := fun ds P => ∃ (t : Tab) (q p : Int) (m : Cells), ds = [.obj A.C_Run [], machD A t, shotD q p m] ∧ (m.length ≤ 50000 ∧ m.Pairwise fun a b => a.1 < b.1) ∧ P.ok (.fz, .non) [runD A t ⟨q, p, m⟩, machD A t, shotD q p m]
def W_Run_step (A : Cs) : DF := fun ds P => ∃ (t : Tab) (st sg : Nat) (x : Cf), ds = [runD A t x] ∧ TabOk t st sg ∧ CfOk x st sg ∧ x.c.length ≤ 90000 ∧ match stepC t x with
  | none => P.ok (.fz, .bl false) [runD A t x]
  | some y => P.ok (.fz, .bl true) [runD A t y]
def W_Run_shot (A : Cs) : DF := fun ds P => ∃ (t : Tab) (x : Cf), ds = [runD A t x] ∧ (x.c.map (·.1)).Nodup ∧ x.c.length ≤ 90000 ∧ ∀ m, SortedOf m x.c → P.ok (.fz, shotD x.q x.p m) [runD A t x]
def W_ran (A : Cs) : DF := fun ds P => ∃ (t : Tab) (st sg : Nat) (x : Cf) (n : Int), ds = [runD A t x, .int n] ∧ TabOk t st sg ∧ CfOk x st sg ∧ (n ≤ 10000 ∧ x.c.length ≤ 50000) ∧ P.ok (.fz, .int ((runC t n.toNat x).1 : Nat)) [runD A t (runC t n.toNat x).2, .int n]
def W_after_from (A : Cs) : DF := fun ds P => ∃ (t : Tab) (st sg : Nat) (q p : Int) (c : Cells) (n : Int), ds = [machD A t, shotD q p c, .int n] ∧ TabOk t st sg ∧ (n ≤ 10000 ∧ c.length ≤ 50000) ∧
  ((ShotOk st sg q c ∧ ∀ m, SortedOf m (runC t n.toNat ⟨q, p, c⟩).2.c → P.ok (.fz, .tup [shotD (runC t n.toNat ⟨q, p, c⟩).2.q (runC t n.toNat ⟨q, p, c⟩).2.p m, .int ((runC t n.toNat ⟨q, p, c⟩).1 : Nat)]) ds) ∨ (¬ ShotOk st sg q c ∧ P.ex A.C_NoShot [] ds))
def W_after (A : Cs) : DF := fun ds P => ∃ (t : Tab) (st sg : Nat) (n : Int), ds = [machD A t, .int n] ∧ TabOk t st sg ∧ n ≤ 10000 ∧
  ∀ m, SortedOf m (runC t n.toNat cf0).2.c → P.ok (.fz, .tup [shotD (runC t n.toNat cf0).2.q (runC t n.toNat cf0).2.p m, .int ((runC t n.toNat cf0).1 : Nat)]) ds
def endE (t : Tab) (x : Cf) : Bool := (stepC t x).isNone
def W_stops_at (A : Cs) : DF := fun ds P => ∃ (t : Tab) (st sg : Nat) (n : Int), ds = [machD A t, .int n] ∧ TabOk t st sg ∧ n ≤ 10000 ∧
  P.ok (.fz, if 0 ≤ n ∧ endE t (runC t n.toNat cf0).2 = true then .int ((runC t n.toNat cf0).1 : Nat) else .non) ds
/-! one form each -/
theorem entD_inj : ∀ {a b : Ent}, entD a = entD b → a = b
  | none, none, _ => rfl
  | none, some _, h => by simp [entD] at h
  | some _, none, h => by simp [entD] at h
  | some (a, b, c), some (d, e, f), h => by
    simp only [entD, D.tup.injEq, List.cons.injEq, D.int.injEq, D.str.injEq, and_true] at h
    obtain ⟨rfl, h, rfl⟩ := h
    have : b = e := by cases b <;> cases e <;> first | rfl | simp [wayS] at h
    rw [this]
theorem map_inj' {α β : Type} {f : α → β} (h : ∀ {a b}, f a = f b → a = b) : ∀ {xs ys : List α}, xs.map f = ys.map f → xs = ys
  | [], [], _ => rfl
  | [], _ :: _, e => by simp at e
  | _ :: _, [], e => by simp at e
  | x :: xs, y :: ys, e => by
    simp only [List.map_cons, List.cons.injEq] at e
    rw [h e.1, map_inj' h e.2]
theorem rowT_inj {a b : List Ent} (h : rowT a = rowT b) : a = b := map_inj' entD_inj (by simpa [rowT] using h)
theorem rowL_inj {a b : List Ent} (h : rowL a = rowL b) : a = b := map_inj' entD_inj (by simpa [rowL] using h)
@[simp] theorem tabT_inj {a b : Tab} : tabT a = tabT b ↔ a = b := ⟨fun h => map_inj' (f := rowT) rowT_inj (by simpa [tabT] using h), fun h => h ▸ rfl⟩
@[simp] theorem tabL_inj {a b : Tab} : tabL a = tabL b ↔ a = b := ⟨fun h => map_inj' (f := rowL) rowL_inj (by simpa [tabL] using h), fun h => h ▸ rfl⟩
@[simp] theorem machD_inj {A : Cs} {a b : Tab} : machD A a = machD A b ↔ a = b := by simp [machD]
theorem cK_inj {a b : Cells} (h : cK a = cK b) : a = b := map_inj' (f := fun x : Int × Int => ((.inl x.1, .int x.2) : Key × D)) (fun {x y} e => by
  obtain ⟨x1, x2⟩ := x
  obtain ⟨y1, y2⟩ := y
  simpa using e) h
@[simp] theorem cD_inj {a b : Cells} : cD a = cD b ↔ a = b := ⟨fun h => cK_inj (by simpa [cD] using h), fun h => h ▸ rfl⟩
@[simp] theorem marksD_inj {a b : Cells} : marksD a = marksD b ↔ a = b := ⟨fun h => map_inj' (f := fun x : Int × Int => D.tup [.int x.1, .int x.2]) (fun {x y} e => by
  obtain ⟨x1, x2⟩ := x
  obtain ⟨y1, y2⟩ := y
  simpa using e) (by simpa [marksD] using h), fun h => h ▸ rfl⟩
@[simp] theorem shotD_inj {a b c d : Int} {m n : Cells} : shotD a b m = shotD c d n ↔ a = c ∧ b = d ∧ m = n := by simp [shotD]
@[simp] theorem runD_inj {A : Cs} {a b : Tab} {x y : Cf} : runD A a x = runD A b y ↔ a = b ∧ x = y := by
  obtain ⟨x1, x2, x3⟩ := x
  obtain ⟨y1, y2, y3⟩ := y
  simp [runD]
/-! ### the law's own -/
def W__law_next (A : Cs) : DF := fun ds P => match ds with
  | [.scr ns, .lst [.int a]] => (0 ≤ a ∧ a ≤ 1000000000) ∧ ∀ m : Int, 0 ≤ m → m < 1999999973 → P.ok (.fz, .int m) [.scr ns, .lst [.int (a + 1)]]
  | _ => False
@[simp ↓] theorem W__law_next_eq {A : Cs} {ns : List Int} {a : Int} {P : Pf} : W__law_next A [.scr ns, .lst [.int a]] P = ((0 ≤ a ∧ a ≤ 1000000000) ∧ ∀ m : Int, 0 ≤ m → m < 1999999973 → P.ok (.fz, .int m) [.scr ns, .lst [.int (a + 1)]]) := rfl
end My

namespace My
open PySem PySem.Spec PyProof.Rows L2 VL
/-! ### cells -/
/-! ### tables -/
theorem rowAt_get {t : Tab} {st sg : Nat} {q : Int} (h : TabOk t st sg) (h1 : 0 ≤ q) (h2 : q < st) : t[q.toNat]? = some (rowAt t q) := by
  have hq : q.toNat < t.length := by rw [h.len]; omega
  unfold rowAt
  simp [List.getD, hq]
theorem rowAt_mem {t : Tab} {st sg : Nat} {q : Int} (h : TabOk t st sg) (h1 : 0 ≤ q) (h2 : q < st) : rowAt t q ∈ t := List.mem_of_getElem? (rowAt_get h h1 h2)
theorem row_len {t : Tab} {st sg : Nat} {q : Int} (h : TabOk t st sg) (h1 : 0 ≤ q) (h2 : q < st) : (rowAt t q).length = sg := (h.row _ (rowAt_mem h h1 h2)).1
theorem entAt_get {t : Tab} {st sg : Nat} {q s : Int} (h : TabOk t st sg) (h1 : 0 ≤ q) (h2 : q < st) (h3 : 0 ≤ s) (h4 : s < sg) : (rowAt t q)[s.toNat]? = some (entAt t q s) := by
  have hs : s.toNat < (rowAt t q).length := by rw [row_len h h1 h2]; omega
  unfold entAt
  simp [List.getD, hs]
theorem ixN_of {n : Nat} {i : Int} (h1 : 0 ≤ i) (h2 : i < n) : ixN n i = some i.toNat := by simp [ixN, h1, h2]
theorem atI_of {α : Type} {xs : List α} {i : Int} (h1 : 0 ≤ i) (h2 : i < xs.length) : L2.atI xs i = xs[i.toNat]? := by
  unfold L2.atI
  rw [ixN_of h1 h2]
  rfl
theorem atI_row {g : List Ent → D} {t : Tab} {st sg : Nat} {q : Int} (h : TabOk t st sg) (h1 : 0 ≤ q) (h2 : q < st) : L2.atI (t.map g) q = some (g (rowAt t q)) := by
  rw [atI_of h1 (by rw [List.length_map, h.len]; omega), List.getElem?_map, rowAt_get h h1 h2]
  rfl
theorem atI_ent {t : Tab} {st sg : Nat} {q s : Int} (h : TabOk t st sg) (h1 : 0 ≤ q) (h2 : q < st) (h3 : 0 ≤ s) (h4 : s < sg) : L2.atI ((rowAt t q).map entD) s = some (entD (entAt t q s)) := by
  rw [atI_of h3 (by rw [List.length_map, row_len h h1 h2]; omega), List.getElem?_map, entAt_get h h1 h2 h3 h4]
  rfl
theorem cGet_of : ∀ {c : Cells}, (c.map (·.1)).Nodup → ∀ y ∈ c, cGet c y.1 = some y.2
  | [], _, _, h => nomatch h
  | x :: c, hn, y, h => by
    rw [List.map_cons] at hn
    have hn := List.nodup_cons.mp hn
    unfold cGet
    rcases List.mem_cons.mp h with rfl | h
    · simp
    · have ne : ¬ x.1 = y.1 := fun e => hn.1 (by rw [e]; exact List.mem_map.mpr ⟨y, h, rfl⟩)
      rw [List.find?_cons]
      have h2 : decide (x.1 = y.1) = false := by simp [ne]
      rw [h2]
      exact cGet_of hn.2 y h
theorem cAt_of {c : Cells} (hn : (c.map (·.1)).Nodup) {y : Int × Int} (h : y ∈ c) : cAt c y.1 = y.2 := by
  unfold cAt
  rw [cGet_of hn y h]
  rfl
theorem keys_back {c : Cells} (hn : (c.map (·.1)).Nodup) : (c.map (·.1)).map (fun p => (p, cAt c p)) = c := by
  rw [List.map_map]
  have : ∀ y ∈ c, ((fun p => (p, cAt c p)) ∘ fun x : Int × Int => x.1) y = y := fun y hy => by
    show (y.1, cAt c y.1) = y
    rw [cAt_of hn hy]
  rw [List.map_congr_left this]
  simp
theorem sorted_keys {c : Cells} (hn : (c.map (·.1)).Nodup) {ns : List Int} (h1 : ns.Perm (c.map (·.1))) (h2 : ns.Pairwise (· ≤ ·)) : SortedOf (ns.map fun p => (p, cAt c p)) c := by
  refine ⟨?_, ?_⟩
  · have := h1.map fun p => (p, cAt c p)
    rwa [keys_back hn] at this
  · exact List.pairwise_map.mpr h2
/-! the program's things as they are read -/
section
variable {A : Cs} {t : Tab} {x : Cf} {i : Nat} {p : List Nat} {q : Kd × D → Prop} {m : Str}
@[simp ↓] theorem fld_mach : fldK A.C_Machine (Str.ofString "table") 0 (.fz, machD A t) q = q (.fz, tabT t) := by simp [machD]
@[simp ↓] theorem fld_run0 : fldK A.C_Run (Str.ofString "table") 0 (.bor i p (.O [.F, .F, .F, .K]), runD A t x) q = q (.fz, tabT t) := by simp [runD]
@[simp ↓] theorem fld_run1 : fldK A.C_Run (Str.ofString "state") 1 (.bor i p (.O [.F, .F, .F, .K]), runD A t x) q = q (.fz, .int x.q) := by simp [runD]
@[simp ↓] theorem fld_run2 : fldK A.C_Run (Str.ofString "place") 2 (.bor i p (.O [.F, .F, .F, .K]), runD A t x) q = q (.fz, .int x.p) := by simp [runD]
@[simp ↓] theorem fld_run3 : fldK A.C_Run (Str.ofString "cells") 3 (.bor i p (.O [.F, .F, .F, .K]), runD A t x) q = q (.bor i (p ++ [3]) .K, cD x.c) := by simp [runD]
@[simp ↓] theorem obj_run : objOk A.C_Run m (runD A t x) = (([Str.ofString "table", Str.ofString "state", Str.ofString "place", Str.ofString "cells"] : List Str).contains m = false) := by simp [runD]
end
end My

namespace My
open PySem PySem.Spec PyProof.Rows L2 VL
/-! ### the law's own functions of the runs' laws -/
def cfD (x : Cf) : D := .tup [.int x.q, .int x.p, cD x.c]
@[simp] theorem cfD_inj {x y : Cf} : cfD x = cfD y ↔ x = y := by
  obtain ⟨x1, x2, x3⟩ := x
  obtain ⟨y1, y2, y3⟩ := y
  simp [cfD]
def rowC (t : Tab) : Nat → Cf → List Cf
  | 0, x => [x]
  | n + 1, x => x :: match stepC t x with
    | none => []
    | some y => rowC t n y
def W__law_table (A : Cs) : DF := fun ds P => ∃ (ns : List Int) (a : Int) (st sg : Nat), ds = [.scr ns, .lst [.int a], .int st, .int sg] ∧ (0 ≤ a ∧ a ≤ 900000000) ∧ (0 < st ∧ st ≤ 100) ∧ (0 < sg ∧ sg ≤ 100) ∧
  ∀ (t : Tab) (a' : Int), TabOk t st sg → a ≤ a' → a' ≤ a + 10000 → P.ok (.new (.L (.L .F)), tabL t) [.scr ns, .lst [.int a'], .int st, .int sg]
def W__law_step (A : Cs) : DF := fun ds P => ∃ (t : Tab) (st sg : Nat) (x : Cf), ds = [tabL t, cfD x] ∧ TabOk t st sg ∧ CfOk x st sg ∧ x.c.length ≤ 50000 ∧ match stepC t x with
  | none => P.ok (.fz, .non) ds
  | some y => P.ok (.fz, cfD y) ds
def W__law_run (A : Cs) : DF := fun ds P => ∃ (t : Tab) (st sg : Nat) (x : Cf) (n : Nat), ds = [tabL t, cfD x, .int n] ∧ TabOk t st sg ∧ CfOk x st sg ∧ (x.c.length ≤ 10000 ∧ n ≤ 10000) ∧ P.ok (.new (.L .F), .lst ((rowC t n x).map cfD)) ds
open PySem PySem.Spec PyProof.Rows L2 VL
/-! ### k06 -/
theorem sorted_unique {c m m' : Cells} (hn : (c.map (·.1)).Nodup) (h : SortedOf m c) (h' : SortedOf m' c) : m = m' := by
  have key : ∀ {x y : Int × Int}, x ∈ c → y ∈ c → x.1 = y.1 → x = y := fun {x y} hx hy e => by
    have e1 := cAt_of hn hx
    have e2 := cAt_of hn hy
    rw [e] at e1
    exact Prod.ext e (e1.symm.trans e2)
  refine List.Perm.eq_of_pairwise (le := fun a b => a.1 ≤ b.1) (fun a b ha hb h1 h2 => ?_) h.2 h'.2 (h.1.trans h'.1.symm)
  exact key (h.1.mem_iff.mp ha) (h'.1.mem_iff.mp hb) (by omega)
/-- the marks in their order -/
def sortC (c : Cells) : Cells := ((c.map (·.1)).mergeSort (fun a b => decide (a ≤ b))).map fun p => (p, cAt c p)
theorem sortC_of {c : Cells} (hn : (c.map (·.1)).Nodup) : SortedOf (sortC c) c := by
  refine sorted_keys hn (List.mergeSort_perm _ _) ?_
  have := List.pairwise_mergeSort (le := fun a b : Int => decide (a ≤ b)) (fun a b c => by simp; omega) (fun a b => by simp; omega) (c.map (·.1))
  exact this.imp fun h => by simpa using h
theorem sortC_eq {c m : Cells} (hn : (c.map (·.1)).Nodup) (h : SortedOf m c) : m = sortC c := sorted_unique hn h (sortC_of hn)
def shotC (x : Cf) : D := shotD x.q x.p (sortC x.c)
def W__law_shot (A : Cs) : DF := fun ds P => ∃ x : Cf, ds = [cfD x] ∧ (x.c.map (·.1)).Nodup ∧ x.c.length ≤ 90000 ∧ P.ok (.fz, shotC x) ds
def W_law (A : Cs) : DF := fun ds P => ∃ ns : List Int, ds = [.scr ns] ∧ ns.length ≤ 63 ∧ P.ok (.fz, .bl true) ds

/-! ### papers of rounds -/
def roundB (p : D) (k : Str) : Bool := match p with
  | .tup [a, .int x, .int y] => eqX a (.str k) && decide (0 ≤ x ∧ x < y)
  | _ => false
def W_is_round (A : Cs) : DF := fun ds P => ∃ (p : D) (k : Str), ds = [p, .str k] ∧ pdK 50 p = true ∧ PyData.strOk k = true ∧ P.ok (.fz, .bl (roundB p k)) ds
/-- the shots are the same -/
def sameS (x y : Cf) : Prop := x.q = y.q ∧ x.p = y.p ∧ sortC x.c = sortC y.c
instance {x y : Cf} : Decidable (sameS x y) := inferInstanceAs (Decidable (_ ∧ _ ∧ _))
/-- a paper of the kind same, of two numbers, is taken -/
def sameT (t : Tab) (x y : Nat) : Bool := decide ((runC t y cf0).1 = y ∧ sameS (runC t x cf0).2 (runC t y cf0).2)
def natD (p : D) (j : Nat) : Nat := match p with
  | .tup xs => match xs[j]? with
    | some (.int x) => x.toNat
    | _ => 0
  | _ => 0
def W_takes_same (A : Cs) : DF := fun ds P => ∃ (t : Tab) (st sg : Nat) (p : D), ds = [machD A t, p] ∧ TabOk t st sg ∧ pdK 50 p = true ∧ natD p 2 ≤ 10000 ∧ P.ok (.fz, .bl (roundB p "same" && sameT t (natD p 1) (natD p 2))) ds
/-! longer runs in two parts -/
/-! ### the same but for the order of the marks -/
structure Sim (x y : Cf) : Prop where
  q : x.q = y.q
  p : x.p = y.p
  c : x.c.Perm y.c
  n : (x.c.map (·.1)).Nodup
theorem Sim.same {x y : Cf} (h : Sim x y) : sameS x y := by
  have hy : (y.c.map (·.1)).Nodup := (h.c.map (·.1)).nodup_iff.mp h.n
  refine ⟨h.q, h.p, ?_⟩
  have h1 := sortC_of h.n
  exact sortC_eq hy ⟨h1.1.trans h.c, h1.2⟩
def W__law_machine_by (A : Cs) : DF := fun ds P => ∃ (ns : List Int) (a : Int), ds = [.scr ns, .lst [.int a]] ∧ (0 ≤ a ∧ a ≤ 800000000) ∧
  ∀ (t : Tab) (st sg : Nat) (a' : Int), TabOk t st sg → st ≤ 5 → sg ≤ 8 → a ≤ a' → a' ≤ a + 20000 → P.ok (.new (.L (.L .F)), tabL t) [.scr ns, .lst [.int a']]
/-! calls, as they come -/
section
variable {A : Cs} {t : Tab} {st sg : Nat} {P : Pf}
theorem mach_i (ht : TabOk t st sg) (h : P.ok (.fz, .non) [machD A t, tabL t]) : W_Machine_init A [.obj A.C_Machine [], tabL t] P := ⟨t, st, sg, A.C_Machine, rfl, ht, h⟩
end
end My

namespace My
open PySem PySem.Spec PyProof.Rows L2 VL
/-! ### shifted rounds -/
/-- cells of a bounded part of the row, none blank -/
structure Near (n : Nat) (x : Cf) : Prop where
  p : -(n : Int) ≤ x.p ∧ x.p ≤ n
  c : ∀ y ∈ x.c, y.2 ≠ 0 ∧ -(n : Int) ≤ y.1 ∧ y.1 ≤ n
  n : (x.c.map (·.1)).Nodup
theorem Near.le {n m : Nat} {x : Cf} (h : Near n x) (e : n ≤ m) : Near m x := ⟨by have := h.p; omega, fun y hy => by have := h.c y hy; omega, h.n⟩
/-- the marks seen from the place, some of them -/
def relC (x : Cf) (f : Int → Bool) : Cells := ((sortC x.c).filter fun y => f (y.1 - x.p)).map fun y => (y.1 - x.p, y.2)
/-- how far the way goes -/
def minP (t : Tab) (x : Cf) : Nat → Int
  | 0 => x.p
  | k + 1 => if (runC t (k + 1) x).2.p < minP t x k then (runC t (k + 1) x).2.p else minP t x k
def maxP (t : Tab) (x : Cf) : Nat → Int
  | 0 => x.p
  | k + 1 => if maxP t x k < (runC t (k + 1) x).2.p then (runC t (k + 1) x).2.p else maxP t x k
def shB (x y : Cf) (lo hi : Int) : Bool := decide (x.q = y.q) && (!decide (x.p = y.p) && (if x.p < y.p then decide (relC x (fun o => decide (lo ≤ x.p + o)) = relC y fun o => decide (lo ≤ x.p + o)) else decide (relC x (fun o => decide (x.p + o ≤ hi)) = relC y fun o => decide (x.p + o ≤ hi))))
def shiftT (t : Tab) (f l : Nat) : Bool := decide ((runC t l cf0).1 = l) && shB (runC t f cf0).2 (runC t l cf0).2 (minP t (runC t f cf0).2 (l - f)) (maxP t (runC t f cf0).2 (l - f))
def cellsD (c : Cells) : D := .lst (c.map fun y => .tup [.int y.1, .int y.2])
def W_cells_from (A : Cs) : DF := fun ds P => ∃ (x : Cf) (e w : Int), ds = [shotC x, .int e, .int w] ∧ (w = 1 ∨ w = -1) ∧ (x.c.map (·.1)).Nodup ∧ x.c.length ≤ 90000 ∧ P.ok (.new (.L .F), cellsD (relC x fun o => decide (0 ≤ (o - e) * w))) ds
def W_is_shifted (A : Cs) : DF := fun ds P => ∃ (x y : Cf) (lo hi : Int), ds = [shotC x, shotC y, .int lo, .int hi] ∧ ((x.c.map (·.1)).Nodup ∧ x.c.length ≤ 90000) ∧ ((y.c.map (·.1)).Nodup ∧ y.c.length ≤ 90000) ∧ P.ok (.fz, .bl (shB x y (x.p - lo) (x.p + hi))) ds
def W_takes_shifted (A : Cs) : DF := fun ds P => ∃ (t : Tab) (st sg : Nat) (p : D), ds = [machD A t, p] ∧ TabOk t st sg ∧ pdK 50 p = true ∧ natD p 2 ≤ 10000 ∧ P.ok (.fz, .bl (roundB p "shifted" && shiftT t (natD p 1) (natD p 2))) ds
section
variable {A : Cs} {t : Tab} {st sg : Nat} {P : Pf}
end
/-- items picked and mapped -/
theorem lc_filt {α : Type} {xs : List α} {f G : α → D} {c : α → Bool} {g : DG} {tst : DE Bool} {we : DE (Kd × D)} {vs q : List Nat} {ρ : Rho} {Z : List D → Rho → Prop} (hz : Z ((xs.filter c).map G) ρ)
    (h : ∀ x ∈ xs, ∀ acc : List D, acc.length < xs.length → lcTurn g tst we vs q (f x) acc ρ fun acc' ρ' => acc' = (if c x = true then acc ++ [G x] else acc) ∧ ρ' = ρ) : lcK (xs.map f) g tst we vs q ρ Z := by
  refine ⟨fun i acc r => acc = ((xs.take i).filter c).map G ∧ r = ρ, ⟨by simp, rfl⟩, fun i d acc r hd hi => ?_, fun acc r hr => ?_⟩
  · obtain ⟨rfl, rfl⟩ := hi
    rw [List.getElem?_map] at hd
    cases ex : xs[i]? with
    | none => rw [ex] at hd; cases hd
    | some x =>
      rw [ex] at hd
      cases hd
      have hlt := (List.getElem?_eq_some_iff.mp ex).1
      have e : ((xs.take (i + 1)).filter c).map G = if c x = true then ((xs.take i).filter c).map G ++ [G x] else ((xs.take i).filter c).map G := by
        rw [List.take_add_one, ex]
        by_cases cx : c x = true
        · simp [cx]
        · simp [cx]
      have z := h x (List.mem_of_getElem? ex) (((xs.take i).filter c).map G) (by
        rw [List.length_map]
        have := List.length_filter_le c (xs.take i)
        rw [List.length_take] at this
        omega)
      rw [← e] at z
      exact z
  · obtain ⟨rfl, rfl⟩ := hr
    rw [List.length_map, List.take_length]
    exact hz
end My

/-! divmod -/
namespace VL
open PySem PySem.Spec PyProof.Rows L2 RT RZ
section
variable {K : PySem.W.Frag}
def oDivmod : OL := fun xs q => two2 xs fun x y => intK x.2 y.2 fun i j => CDiv i j ∧ q (.fz, .tup [.int (i / j), .int (i % j)])
@[simp ↓] theorem oDivmod_c {k k' : Kd} {i j : Int} {q : Kd × D → Prop} : oDivmod [(k, .int i), (k', .int j)] q = (CDiv i j ∧ q (.fz, .tup [.int (i / j), .int (i % j)])) := rfl
end
end VL

/-! list(reversed(a list)), tuple(reversed(a list)) -/
namespace VL
open PySem PySem.Spec PyProof.Rows L2 RT RZ
section
variable {prog : Program} {w : World} {A : Around} {E : Value → Shared → Prop} {s : Shared}
end
def rLRev (K : PySem.W.Frag) : V → Hp → VK → Prop := fun v H Q => ∃ (a : Addr) (xs : List V), v = .ref a ∧ SqL K H a xs ∧ ∀ q, H q = none → Q (.ref q) (upd H q (.lst xs.reverse))
def rTRev (K : PySem.W.Frag) : V → Hp → VK → Prop := fun v H Q => ∃ (a : Addr) (xs : List V), v = .ref a ∧ SqL K H a xs ∧ ∀ q, H q = none → Q (.ref q) (upd H q (.tup xs.reverse))
section
variable {X : Cx}
end
section
variable {K : PySem.W.Frag} {W : WX}
def oLRev : O1 := fun x q => lstK x fun ds => q (.new (.L .F), .lst ds.reverse)
def oTRev : O1 := fun x q => lstK x fun ds => q (.fz, .tup ds.reverse)
@[simp ↓] theorem oLRev_b {i : Nat} {p : List Nat} {ds : List D} {q : Kd × D → Prop} : oLRev (.bor i p (.L .F), .lst ds) q = q (.new (.L .F), .lst ds.reverse) := rfl
@[simp ↓] theorem oLRev_f {ds : List D} {q : Kd × D → Prop} : oLRev (.fz, .lst ds) q = q (.new (.L .F), .lst ds.reverse) := rfl
end
end VL

/-! try: .. except C: .. without a name; x.f op= y -/
namespace VL
open PySem PySem.Spec PyProof.Rows L2 RT RZ
section
variable {K : PySem.W.Frag} {W : WX} {σ : L2.St} {H : Hp} {X : Cx} {Z : Ends} {E : En} {ρ : Rho}
def wTryO (C : Addr) (b su : DS) : DS := fun E ρ => b { E with ex := fun C' fl ρ' => (C' = C ∧ fl = []) ∧ su { E with ex := fun _ _ _ => False } ρ' } ρ
@[simp ↓] theorem wTryO_eq {C : Addr} {b su : DS} : wTryO C b su E ρ = b { E with ex := fun C' fl ρ' => (C' = C ∧ fl = []) ∧ su { E with ex := fun _ _ _ => False } ρ' } ρ := rfl
/-- x.f op= y, y a local name -/
def wAugF (i : Nat) (C : Addr) (f : Str) (j k : Nat) (g : Int → Int → Int) : DS := wPutF i C f j (wOp (oI0 g) (wFld C f j (wVar i)) (wVar k))
@[simp ↓] theorem wAugF_eq {i j k : Nat} {C : Addr} {f : Str} {g : Int → Int → Int} : wAugF i C f j k g = wPutF i C f j (wOp (oI0 g) (wFld C f j (wVar i)) (wVar k)) := rfl
end
end VL

/-! a thing of one's own lent as frozen while an expression runs whose answer holds no list -/
namespace VL
open PySem PySem.Spec PyProof.Rows L2 RT RZ
section
variable {K : PySem.W.Frag} {W : WX} {G G' H H' : Hp} {σ : L2.St} {X : Cx} {ρ : Rho} {S T : Sta}
def isLst : HO → Bool
  | .lst _ => true
  | _ => false
/-- no list within -/
def noL : Nat → D → Bool
  | _, .non => true
  | _, .bl _ => true
  | _, .int _ => true
  | _, .str _ => true
  | n + 1, .tup xs => xs.all (noL n)
  | n + 1, .dct kvs => kvs.all fun x => noL n x.2
  | n + 1, .obj _ fs => fs.all fun x => noL n x.2
  | _, _ => false
/-- .. within what is frozen of a thing held so -/
def noLM : Nat → Md → D → Bool
  | n, .F, d => noL n d
  | n + 1, .L m, .lst ds => ds.all (noLM n m)
  | n + 1, .O ms, .obj _ fs => decide (ms.length = fs.length) && (ms.zip fs).all fun x => noLM n x.1 x.2.2
  | n + 1, .K, .dct kvs => kvs.all fun x => noL n x.2
  | n + 1, .T ms, .tup ds => decide (ms.length = ds.length) && (ms.zip ds).all fun x => noLM n x.1 x.2
  | _, _, _ => false
abbrev KeepL (G G' : Hp) : Prop := ∀ a o, G a = some o → isLst o = false → G' a = some o
theorem KeepL.t (k : KeepL G G') {a : Addr} {xs : List V} (h : SqT K G a xs) : SqT K G' a xs := by
  rcases h with (h | ⟨o, h⟩) | h
  · exact .inl (.inl (k a _ h rfl))
  · exact .inl (.inr ⟨o, k a _ h rfl⟩)
  · exact .inr h
theorem Dt.noL (k : KeepL G G') : ∀ {n : Nat} {v : V} {d : D}, noL n d = true → Dt K G v d → Dt K G' v d
  | 0, v, d, h, x => by
    cases x with
    | non => exact .non
    | bl b => exact .bl b
    | int i => exact .int i
    | str i => exact .str i
    | lst _ _ => simp [VL.noL] at h
    | scr _ => simp [VL.noL] at h
    | tup _ _ => simp [VL.noL] at h
    | dct _ _ => simp [VL.noL] at h
    | exc _ => simp [VL.noL] at h
    | ndc _ _ => simp [VL.noL] at h
    | exf _ _ _ => simp [VL.noL] at h
    | obj _ _ _ => simp [VL.noL] at h
  | n + 1, v, d, h, x => by
    cases x with
    | non => exact .non
    | bl b => exact .bl b
    | int i => exact .int i
    | str i => exact .str i
    | lst _ _ => simp [VL.noL] at h
    | scr _ => simp [VL.noL] at h
    | exc _ => simp [VL.noL] at h
    | ndc _ _ => simp [VL.noL] at h
    | exf _ _ _ => simp [VL.noL] at h
    | tup h1 h2 =>
      rename_i a xs ds
      refine .tup (k.t h1) ?_
      have h' : ds.all (VL.noL n) = true := by simpa only [VL.noL] using h
      clear h1 h
      have h := h'
      clear h'
      induction ds generalizing xs with
      | nil => cases h2; exact .nil
      | cons d ds ih =>
        cases h2 with
        | cons q t =>
          simp only [List.all_cons, Bool.and_eq_true] at h
          exact .cons (Dt.noL k h.1 q) (ih t h.2)
    | dct h1 h2 =>
      rename_i a kvs ds
      refine .dct (h1.imp (fun z => k a _ z rfl) fun ⟨o, z⟩ => ⟨o, k a _ z rfl⟩) ?_
      have h' : (ds.all fun x => VL.noL n x.2) = true := by simpa only [VL.noL] using h
      clear h1 h
      have h := h'
      clear h'
      induction ds generalizing kvs with
      | nil => cases h2; exact .nil
      | cons d ds ih =>
        cases h2 with
        | cons q t =>
          simp only [List.all_cons, Bool.and_eq_true] at h
          exact .cons (Dt.noL k h.1 q) (ih t h.2)
    | obj h1 hn h2 =>
      rename_i a C dx fs ds
      refine .obj (k a _ h1 rfl) hn ?_
      have h' : (ds.all fun x => VL.noL n x.2) = true := by simpa only [VL.noL] using h
      clear h1 hn h
      have h := h'
      clear h'
      induction ds generalizing fs with
      | nil => cases h2; exact .nil
      | cons d ds ih =>
        cases h2 with
        | cons q t =>
          simp only [List.all_cons, Bool.and_eq_true] at h
          exact .cons (Dt.noL k h.1 q) (ih t h.2)
theorem DtK.noL (k : KeepL G G') {n : Nat} : ∀ {vs : List (Key × V)} {ds : List (Key × D)}, (ds.all fun x => VL.noL n x.2) = true → DtK K G vs ds → DtK K G' vs ds
  | _, _, _, .nil => .nil
  | _, _, h, .cons q t => by
    simp only [List.all_cons, Bool.and_eq_true] at h
    exact .cons (Dt.noL k h.1 q) (DtK.noL k h.2 t)
theorem R.noL (k : KeepL G G') : ∀ {n : Nat} {m : Md} {v : V} {d : D} {fp : List Addr}, noLM n m d = true → R K G H m v d fp → R K G' H m v d fp
  | 0, m, v, d, fp, h, x => by
    cases x with
    | F q => exact .F (q.noL k (n := 0) (by simpa only [noLM] using h))
    | L _ _ => simp [noLM] at h
    | K _ _ => simp [noLM] at h
    | N _ _ => simp [noLM] at h
    | M _ _ => simp [noLM] at h
    | O _ _ _ => simp [noLM] at h
    | P _ => simp [noLM] at h
    | T _ _ => simp [noLM] at h
    | A _ _ => simp [noLM] at h
  | n + 1, m, v, d, fp, h, x => by
    cases x with
    | F q => exact .F (q.noL k (n := n + 1) (by simpa only [noLM] using h))
    | L h1 h2 =>
      rename_i m a xs ds fp
      refine .L h1 ?_
      have h' : ds.all (noLM n m) = true := by simpa only [noLM] using h
      clear h1 h
      have h := h'
      clear h'
      induction ds generalizing xs fp with
      | nil => cases h2; exact .nil
      | cons d ds ih =>
        cases h2 with
        | cons q t =>
          simp only [List.all_cons, Bool.and_eq_true] at h
          exact .cons (R.noL k h.1 q) (ih t h.2)
    | N _ _ => simp [noLM] at h
    | M _ _ => simp [noLM] at h
    | K h1 h2 => exact .K h1 (h2.noL k (n := n) (by simpa only [noLM] using h))
    | O h1 hn h2 =>
      rename_i ms a C dx fs ds fp
      refine .O h1 hn ?_
      have h' : ((ms.zip ds).all fun x => noLM n x.1 x.2.2) = true := by
        simp only [noLM, Bool.and_eq_true] at h
        exact h.2
      clear h1 hn h
      have h := h'
      clear h'
      induction ds generalizing fs fp ms with
      | nil => cases h2; exact .nil
      | cons d ds ih =>
        cases h2 with
        | cons q t =>
          simp only [List.zip_cons_cons, List.all_cons, Bool.and_eq_true] at h
          exact .cons (R.noL k h.1 q) (ih t h.2)
    | P _ => simp [noLM] at h
    | A _ _ => simp [noLM] at h
    | T h1 h2 =>
      rename_i ms a xs ds
      refine .T (k _ _ h1 rfl) ?_
      have h' : ((ms.zip ds).all fun x => noLM n x.1 x.2) = true := by
        simp only [noLM, Bool.and_eq_true] at h
        exact h.2
      clear h1 h
      have h := h'
      clear h'
      induction ds generalizing xs fp ms with
      | nil => cases h2; exact .nil
      | cons d ds ih =>
        cases h2 with
        | cons q t =>
          simp only [List.zip_cons_cons, List.all_cons, Bool.and_eq_true] at h
          exact .cons (R.noL k h.1 q) (ih _ t h.2)
mutual
def isLm : Md → Bool
  | .F => true
  | .L m => isLm m
  | .T ms => isLms ms
  | _ => false
def isLms : List Md → Bool
  | [] => true
  | m :: ms => isLm m && isLms ms
end
mutual
theorem R.lists : ∀ {m : Md} {v : V} {d : D} {fp : List Addr}, isLm m = true → R K G H m v d fp → ∀ a ∈ fp, ∃ xs, H a = some (.lst xs)
  | _, _, _, _, _, .F _, _, h => nomatch h
  | _, _, _, _, e, .L h t, a, ha => by
    rcases List.mem_cons.mp ha with rfl | ha
    · exact ⟨_, h⟩
    · exact RA.lists (by simpa only [isLm] using e) t a ha
  | _, _, _, _, e, .T h t, a, ha => RS.lists (by simpa only [isLm] using e) t a ha
  | _, _, _, _, e, .K _ _, a, ha => by simp [isLm] at e
  | _, _, _, _, e, .A _ _, a, ha => by simp [isLm] at e
  | _, _, _, _, e, .N _ _, a, ha => by simp [isLm] at e
  | _, _, _, _, e, .M _ _, a, ha => by simp [isLm] at e
  | _, _, _, _, e, .O _ _ _, a, ha => by simp [isLm] at e
  | _, _, _, _, e, .P _, a, ha => by simp [isLm] at e
theorem RA.lists : ∀ {m : Md} {v : List V} {d : List D} {fp : List Addr}, isLm m = true → RA K G H m v d fp → ∀ a ∈ fp, ∃ xs, H a = some (.lst xs)
  | _, _, _, _, _, .nil, _, h => nomatch h
  | _, _, _, _, e, .cons h t, a, ha => (List.mem_append.mp ha).elim (R.lists e h a) (RA.lists e t a)
theorem RS.lists : ∀ {m : List Md} {v : List V} {d : List D} {fp : List Addr}, isLms m = true → RS K G H m v d fp → ∀ a ∈ fp, ∃ xs, H a = some (.lst xs)
  | _, _, _, _, _, .nil, _, h => nomatch h
  | _, _, _, _, e, .cons h t, a, ha => by
    simp only [isLms, Bool.and_eq_true] at e
    exact (List.mem_append.mp ha).elim (R.lists e.1 h a) (RS.lists e.2 t a)
end
def noLK (x : Kd × D) : Bool := match x.1 with
  | .fz => noL 40 x.2
  | .new m => noLM 40 m x.2
  | .bor _ _ _ => false
def lendK (ρ : Rho) (i : Nat) (q : Md → D → Prop) : Prop := match ρ[i]? with
  | some (some (m, d)) => isLm m = true ∧ q m d
  | _ => False
def wLend (i : Nat) (we : DE (Kd × D)) : DE (Kd × D) := fun ρ P => lendK ρ i fun _ d => we (ρ.set i (some (.F, d))) ⟨fun p x ρ' => (p = [] ∧ noLK x = true ∧ ρ' = ρ.set i (some (.F, d))) ∧ P.ok [] x ρ, fun _ _ _ => False⟩
@[simp ↓] theorem wLend_eq {i : Nat} {we : DE (Kd × D)} {P : Po (Kd × D)} : wLend i we ρ P = lendK ρ i fun _ d => we (ρ.set i (some (.F, d))) ⟨fun p x ρ' => (p = [] ∧ noLK x = true ∧ ρ' = ρ.set i (some (.F, d))) ∧ P.ok [] x ρ, fun _ _ _ => False⟩ := rfl
@[simp ↓] theorem lendK_0 {m : Md} {d : D} {q : Md → D → Prop} : lendK (some (m, d) :: ρ) 0 q = (isLm m = true ∧ q m d) := rfl
@[simp ↓] theorem lendK_s {x : Option (Md × D)} {i : Nat} {q : Md → D → Prop} : lendK (x :: ρ) (i + 1) q = lendK ρ i q := by simp [lendK]
@[simp ↓] theorem noLK_f {d : D} : noLK (.fz, d) = noL 40 d := rfl
@[simp ↓] theorem noLK_n {m : Md} {d : D} : noLK (.new m, d) = noLM 40 m d := rfl
end
end VL

/-! dicts of one's own lent as frozen while an expression runs whose answer holds no dict -/
namespace VL
open PySem PySem.Spec PyProof.Rows L2 RT RZ
section
variable {K : PySem.W.Frag} {W : WX} {G G' H H' : Hp} {σ : L2.St} {X : Cx} {ρ : Rho} {S T : Sta}
def isDic : HO → Bool
  | .dK _ => true
  | .dT _ => true
  | .ext _ => true
  | _ => false
/-- no dict within -/
def noD : Nat → D → Bool
  | _, .non => true
  | _, .bl _ => true
  | _, .int _ => true
  | _, .str _ => true
  | n + 1, .lst xs => xs.all (noD n)
  | n + 1, .tup xs => xs.all (noD n)
  | n + 1, .obj _ fs => fs.all fun x => noD n x.2
  | _, _ => false
/-- .. within what is frozen of a thing held so -/
def noDM : Nat → Md → D → Bool
  | n, .F, d => noD n d
  | n + 1, .L m, .lst ds => ds.all (noDM n m)
  | n + 1, .O ms, .obj _ fs => decide (ms.length = fs.length) && (ms.zip fs).all fun x => noDM n x.1 x.2.2
  | n + 1, .T ms, .tup ds => decide (ms.length = ds.length) && (ms.zip ds).all fun x => noDM n x.1 x.2
  | _, _, _ => false
abbrev KeepD (G G' : Hp) : Prop := ∀ a o, G a = some o → isDic o = false → G' a = some o
theorem KeepD.t (k : KeepD G G') {a : Addr} {xs : List V} (h : SqT K G a xs) : SqT K G' a xs := by
  rcases h with (h | ⟨o, h⟩) | h
  · exact .inl (.inl (k a _ h rfl))
  · exact .inl (.inr ⟨o, k a _ h rfl⟩)
  · exact .inr h
theorem Dt.noD (k : KeepD G G') : ∀ {n : Nat} {v : V} {d : D}, noD n d = true → Dt K G v d → Dt K G' v d
  | 0, v, d, h, x => by
    cases x with
    | non => exact .non
    | bl b => exact .bl b
    | int i => exact .int i
    | str i => exact .str i
    | lst _ _ => simp [VL.noD] at h
    | scr _ => simp [VL.noD] at h
    | tup _ _ => simp [VL.noD] at h
    | dct _ _ => simp [VL.noD] at h
    | exc _ => simp [VL.noD] at h
    | ndc _ _ => simp [VL.noD] at h
    | exf _ _ _ => simp [VL.noD] at h
    | obj _ _ _ => simp [VL.noD] at h
  | n + 1, v, d, h, x => by
    cases x with
    | non => exact .non
    | bl b => exact .bl b
    | int i => exact .int i
    | str i => exact .str i
    | scr _ => simp [VL.noD] at h
    | exc _ => simp [VL.noD] at h
    | ndc _ _ => simp [VL.noD] at h
    | exf _ _ _ => simp [VL.noD] at h
    | dct _ _ => simp [VL.noD] at h
    | tup h1 h2 =>
      rename_i a xs ds
      refine .tup (k.t h1) ?_
      have h' : ds.all (VL.noD n) = true := by simpa only [VL.noD] using h
      clear h1 h
      have h := h'
      clear h'
      induction ds generalizing xs with
      | nil => cases h2; exact .nil
      | cons d ds ih =>
        cases h2 with
        | cons q t =>
          simp only [List.all_cons, Bool.and_eq_true] at h
          exact .cons (Dt.noD k h.1 q) (ih t h.2)
    | lst h1 h2 =>
      rename_i a xs ds
      refine .lst (k _ _ h1 rfl) ?_
      have h' : ds.all (VL.noD n) = true := by simpa only [VL.noD] using h
      clear h1 h
      have h := h'
      clear h'
      induction ds generalizing xs with
      | nil => cases h2; exact .nil
      | cons d ds ih =>
        cases h2 with
        | cons q t =>
          simp only [List.all_cons, Bool.and_eq_true] at h
          exact .cons (Dt.noD k h.1 q) (ih t h.2)
    | obj h1 hn h2 =>
      rename_i a C dx fs ds
      refine .obj (k a _ h1 rfl) hn ?_
      have h' : (ds.all fun x => VL.noD n x.2) = true := by simpa only [VL.noD] using h
      clear h1 hn h
      have h := h'
      clear h'
      induction ds generalizing fs with
      | nil => cases h2; exact .nil
      | cons d ds ih =>
        cases h2 with
        | cons q t =>
          simp only [List.all_cons, Bool.and_eq_true] at h
          exact .cons (Dt.noD k h.1 q) (ih t h.2)
theorem R.noD (k : KeepD G G') : ∀ {n : Nat} {m : Md} {v : V} {d : D} {fp : List Addr}, noDM n m d = true → R K G H m v d fp → R K G' H m v d fp
  | 0, m, v, d, fp, h, x => by
    cases x with
    | F q => exact .F (q.noD k (n := 0) (by simpa only [noDM] using h))
    | L _ _ => simp [noDM] at h
    | K _ _ => simp [noDM] at h
    | N _ _ => simp [noDM] at h
    | M _ _ => simp [noDM] at h
    | O _ _ _ => simp [noDM] at h
    | P _ => simp [noDM] at h
    | T _ _ => simp [noDM] at h
    | A _ _ => simp [noDM] at h
  | n + 1, m, v, d, fp, h, x => by
    cases x with
    | F q => exact .F (q.noD k (n := n + 1) (by simpa only [noDM] using h))
    | L h1 h2 =>
      rename_i m a xs ds fp
      refine .L h1 ?_
      have h' : ds.all (noDM n m) = true := by simpa only [noDM] using h
      clear h1 h
      have h := h'
      clear h'
      induction ds generalizing xs fp with
      | nil => cases h2; exact .nil
      | cons d ds ih =>
        cases h2 with
        | cons q t =>
          simp only [List.all_cons, Bool.and_eq_true] at h
          exact .cons (R.noD k h.1 q) (ih t h.2)
    | N _ _ => simp [noDM] at h
    | M _ _ => simp [noDM] at h
    | K _ _ => simp [noDM] at h
    | O h1 hn h2 =>
      rename_i ms a C dx fs ds fp
      refine .O h1 hn ?_
      have h' : ((ms.zip ds).all fun x => noDM n x.1 x.2.2) = true := by
        simp only [noDM, Bool.and_eq_true] at h
        exact h.2
      clear h1 hn h
      have h := h'
      clear h'
      induction ds generalizing fs fp ms with
      | nil => cases h2; exact .nil
      | cons d ds ih =>
        cases h2 with
        | cons q t =>
          simp only [List.zip_cons_cons, List.all_cons, Bool.and_eq_true] at h
          exact .cons (R.noD k h.1 q) (ih t h.2)
    | P _ => simp [noDM] at h
    | A _ _ => simp [noDM] at h
    | T h1 h2 =>
      rename_i ms a xs ds
      refine .T (k _ _ h1 rfl) ?_
      have h' : ((ms.zip ds).all fun x => noDM n x.1 x.2) = true := by
        simp only [noDM, Bool.and_eq_true] at h
        exact h.2
      clear h1 h
      have h := h'
      clear h'
      induction ds generalizing xs fp ms with
      | nil => cases h2; exact .nil
      | cons d ds ih =>
        cases h2 with
        | cons q t =>
          simp only [List.zip_cons_cons, List.all_cons, Bool.and_eq_true] at h
          exact .cons (R.noD k h.1 q) (ih _ t h.2)
mutual
def isDm : Md → Bool
  | .F => true
  | .K => true
  | .N => true
  | .M m => isDm m
  | .P m => isDm m
  | .T ms => isDms ms
  | _ => false
def isDms : List Md → Bool
  | [] => true
  | m :: ms => isDm m && isDms ms
end
mutual
theorem R.dicts : ∀ {m : Md} {v : V} {d : D} {fp : List Addr}, isDm m = true → R K G H m v d fp → ∀ a ∈ fp, ∃ o, H a = some o ∧ isDic o = true
  | _, _, _, _, _, .F _, _, h => nomatch h
  | _, _, _, _, e, .K h t, a, ha => by
    rcases List.mem_cons.mp ha with rfl | ha
    · exact ⟨_, h, rfl⟩
    · exact nomatch ha
  | _, _, _, _, e, .N h t, a, ha => by
    rcases List.mem_cons.mp ha with rfl | ha
    · exact ⟨_, h, rfl⟩
    · exact nomatch ha
  | _, _, _, _, e, .M h t, a, ha => by
    rcases List.mem_cons.mp ha with rfl | ha
    · exact ⟨_, h, rfl⟩
    · exact RK.dicts (by simpa only [isDm] using e) t a ha
  | _, _, _, _, e, .T h t, a, ha => RS.dicts (by simpa only [isDm] using e) t a ha
  | _, _, _, _, e, .P h, a, ha => R.dicts (by simpa only [isDm] using e) h a ha
  | _, _, _, _, e, .L _ _, a, ha => by simp [isDm] at e
  | _, _, _, _, e, .A _ _, a, ha => by simp [isDm] at e
  | _, _, _, _, e, .O _ _ _, a, ha => by simp [isDm] at e
theorem RK.dicts : ∀ {m : Md} {v : List (Key × V)} {d : List (Key × D)} {fp : List Addr}, isDm m = true → RK K G H m v d fp → ∀ a ∈ fp, ∃ o, H a = some o ∧ isDic o = true
  | _, _, _, _, _, .nil, _, h => nomatch h
  | _, _, _, _, e, .cons h t, a, ha => (List.mem_append.mp ha).elim (R.dicts e h a) (RK.dicts e t a)
theorem RS.dicts : ∀ {m : List Md} {v : List V} {d : List D} {fp : List Addr}, isDms m = true → RS K G H m v d fp → ∀ a ∈ fp, ∃ o, H a = some o ∧ isDic o = true
  | _, _, _, _, _, .nil, _, h => nomatch h
  | _, _, _, _, e, .cons h t, a, ha => by
    simp only [isDms, Bool.and_eq_true] at e
    exact (List.mem_append.mp ha).elim (R.dicts e.1 h a) (RS.dicts e.2 t a)
end
def noDK (x : Kd × D) : Bool := match x.1 with
  | .fz => noD 40 x.2
  | .new m => noDM 40 m x.2
  | .bor _ _ _ => false
def lendDK (ρ : Rho) (i : Nat) (q : Md → D → Prop) : Prop := match ρ[i]? with
  | some (some (m, d)) => isDm m = true ∧ q m d
  | _ => False
def wLendD (i : Nat) (we : DE (Kd × D)) : DE (Kd × D) := fun ρ P => lendDK ρ i fun _ d => we (ρ.set i (some (.F, d))) ⟨fun p x ρ' => (p = [] ∧ noDK x = true ∧ ρ' = ρ.set i (some (.F, d))) ∧ P.ok [] x ρ, fun _ _ _ => False⟩
theorem te_lendD {i : Nat} {we : DE (Kd × D)} {Q : VK} (h : te K W (wLendD i we) σ H Q) : te K W we σ H Q := by
  obtain ⟨S, P, rfl, rfl, ok, w, k, ex⟩ := h
  unfold wLendD lendDK at w
  split at w
  case h_2 => exact w.elim
  rename_i m d e
  obtain ⟨hm, w⟩ := w
  obtain ⟨v0, hv0, r0⟩ := ok.slot i m d e
  have fl := R.dicts hm r0
  have fo := ok.out i
  have g1 : Ex S.G (Gadd S.G S.H (· ∈ S.f i)) := Gadd.ext fo
  have dj : ∀ j, j ≠ i → ∀ a, a ∈ S.f j → a ∉ S.f i := fun j hj a h1 h2 => hj (ok.dj j i a h1 h2)
  have d1 : Dt K (Gadd S.G S.H (· ∈ S.f i)) v0 d := r0.dt g1 fun a ha o ho => by rw [Gadd.in ha]; exact ho
  have hi : i < S.ρ.length := (List.getElem?_eq_some_iff.mp e).1
  have rs : ∀ j, j ≠ i → (S.ρ.set i (some (Md.F, d)))[j]? = S.ρ[j]? := fun j hj => List.getElem?_set_ne (Ne.symm hj)
  have ri : (S.ρ.set i (some (Md.F, d)))[i]? = some (some (.F, d)) := List.getElem?_set_self hi
  have ok1 : Sta.ok K ⟨S.pin, Gadd S.G S.H (· ∈ S.f i), S.H, S.σ, S.ρ.set i (some (.F, d)), S.f.set i []⟩ := {
    ext := Gadd.sub ok.ext
    len := by rw [List.length_set]; exact ok.len
    slot := fun j mj dj' ej => by
      by_cases c : j = i
      · subst c
        have ej : (S.ρ.set j (some (Md.F, d)))[j]? = some (some (mj, dj')) := ej
        rw [ri] at ej
        cases ej
        refine ⟨v0, hv0, ?_⟩
        show R K _ _ .F v0 d (S.f.set j [] j)
        rw [Own.set_same]
        exact .F d1
      · have ej : (S.ρ.set i (some (Md.F, d)))[j]? = some (some (mj, dj')) := ej
        rw [rs j c] at ej
        obtain ⟨v, h1, h2⟩ := ok.slot j mj dj' ej
        refine ⟨v, h1, ?_⟩
        show R K _ _ mj v dj' (S.f.set i [] j)
        rw [Own.set_ne c]
        exact h2.keep g1 fun _ _ _ h => h
    emp := fun j h => by
      by_cases c : j = i
      · subst c; exact Own.set_same
      · show S.f.set i [] j = []
        rw [Own.set_ne c]
        exact ok.emp j fun m' d' => by
          have := h m' d'
          have this : ¬ (S.ρ.set i (some (Md.F, d)))[j]? = some (some (m', d')) := this
          rwa [rs j c] at this
    nd := fun j => by
      by_cases c : j = i
      · subst c
        show (S.f.set j [] j).Nodup
        rw [Own.set_same]
        exact List.nodup_nil
      · show (S.f.set i [] j).Nodup
        rw [Own.set_ne c]
        exact ok.nd j
    dj := fun j l a h1 h2 => by
      have h1 : a ∈ S.f.set i [] j := h1
      have h2 : a ∈ S.f.set i [] l := h2
      by_cases c : j = i
      · subst c; rw [Own.set_same] at h1; exact nomatch h1
      · by_cases c2 : l = i
        · subst c2; rw [Own.set_same] at h2; exact nomatch h2
        · rw [Own.set_ne c] at h1
          rw [Own.set_ne c2] at h2
          exact ok.dj j l a h1 h2
    out := fun j a h => by
      have h : a ∈ S.f.set i [] j := h
      by_cases c : j = i
      · subst c; rw [Own.set_same] at h; exact nomatch h
      · rw [Own.set_ne c] at h
        show Gadd S.G S.H (· ∈ S.f i) a = none
        rw [Gadd.out (dj j c a h)]
        exact ok.out j a h
    pins := fun j m' d' h => by
      have h : (S.ρ.set i (some (Md.F, d)))[j]? = some (some (.P m', d')) := h
      by_cases c : j = i
      · subst c; rw [ri] at h; cases h
      · rw [rs j c] at h
        exact ok.pins j m' d' h }
  refine ⟨⟨S.pin, Gadd S.G S.H (· ∈ S.f i), S.H, S.σ, S.ρ.set i (some (.F, d)), S.f.set i []⟩, _, rfl, rfl, ok1, w, fun p x T hx es okT t tc v hv => ?_, fun C fl T hx => hx.elim⟩
  obtain ⟨⟨rfl, hn, hρ⟩, hP⟩ := hx
  have own1 : ∀ a, Ow (S.f.set i []) a → Ow S.f a := fun a ⟨j, hj⟩ => by
    by_cases c : j = i
    · subst c; rw [Own.set_same] at hj; exact nomatch hj
    · rw [Own.set_ne c] at hj; exact ⟨j, hj⟩
  have tG : ∀ a ∈ S.f i, ∃ xs, S.H a = some xs ∧ T.G a = some xs ∧ isDic xs = true := fun a ha => by
    obtain ⟨xs, h1, hd⟩ := fl a ha
    refine ⟨xs, h1, t.stp.gext a _ ?_, hd⟩
    show Gadd S.G S.H (· ∈ S.f i) a = _
    rw [Gadd.in ha]
    exact h1
  have tH : ∀ a ∈ S.f i, ∀ o, S.H a = some o → T.H a = some o := fun a ha o ho => by
    obtain ⟨xs, h1, h2, _⟩ := tG a ha
    rw [h1] at ho
    cases ho
    exact okT.ext a _ h2
  have kp : KeepD T.G (Gadd T.G (fun _ => none) (· ∈ S.f i)) := fun a o ho hl => by
    by_cases c : a ∈ S.f i
    · obtain ⟨xs, _, h2, h3⟩ := tG a c
      rw [h2] at ho
      cases ho
      rw [h3] at hl
      cases hl
    · rw [Gadd.out c]; exact ho
  have sub : ∀ a o, Gadd T.G (fun _ => none) (· ∈ S.f i) a = some o → T.G a = some o := fun a o ho => by
    by_cases c : a ∈ S.f i
    · rw [Gadd.in c] at ho; cases ho
    · rw [Gadd.out c] at ho; exact ho
  have subn : ∀ a, T.G a = none → Gadd T.G (fun _ => none) (· ∈ S.f i) a = none := fun a ha => by
    by_cases c : a ∈ S.f i
    · rw [Gadd.in c]
    · rw [Gadd.out c]; exact ha
  have gs : Ex S.G (Gadd T.G (fun _ => none) (· ∈ S.f i)) := fun a o ho => by
    have c : a ∉ S.f i := fun c => by rw [fo a c] at ho; cases ho
    rw [Gadd.out c]
    exact t.stp.gext a o (g1 a o ho)
  have tf : ∀ j, j ≠ i → T.f j = S.f j ∧ ∀ a ∈ S.f j, ∀ o, S.H a = some o → T.H a = some o := fun j c => by
    obtain ⟨_, h2, h3⟩ := tc j (by simp)
    have h2 : T.f j = S.f.set i [] j := h2
    have h3 : ∀ a ∈ S.f.set i [] j, ∀ o, S.H a = some o → T.H a = some o := h3
    rw [Own.set_ne c] at h2 h3
    exact ⟨h2, h3⟩
  have tfi : T.f i = [] := by
    obtain ⟨_, h2, _⟩ := tc i (by simp)
    have h2 : T.f i = S.f.set i [] i := h2
    rwa [Own.set_same] at h2
  have fe : ∀ j, (T.f.set i (S.f i)) j = S.f j := fun j => by
    by_cases c : j = i
    · subst c; exact Own.set_same
    · rw [Own.set_ne c]; exact (tf j c).1
  have ok2 : Sta.ok K ⟨S.pin, Gadd T.G (fun _ => none) (· ∈ S.f i), T.H, S.σ, S.ρ, S.f⟩ := {
    ext := fun a o ho => okT.ext a o (sub a o ho)
    len := ok.len
    slot := fun j mj dj' ej => by
      obtain ⟨v, h1, h2⟩ := ok.slot j mj dj' ej
      refine ⟨v, h1, h2.keep gs fun a ha o ho => ?_⟩
      by_cases c : j = i
      · subst c; exact tH a ha o ho
      · exact (tf j c).2 a ha o ho
    emp := ok.emp
    nd := ok.nd
    dj := ok.dj
    out := fun j a h => by
      by_cases c : a ∈ S.f i
      · show Gadd T.G (fun _ => none) (· ∈ S.f i) a = none
        rw [Gadd.in c]
      · refine subn a ?_
        have cj : j ≠ i := fun z => c (z ▸ h)
        exact okT.out j a (by rw [(tf j cj).1]; exact h)
    pins := ok.pins }
  have to2 : Sta.to S ⟨S.pin, Gadd T.G (fun _ => none) (· ∈ S.f i), T.H, S.σ, S.ρ, S.f⟩ := ⟨⟨gs, fun a o ho hf => t.stp.keep a o ho fun z => hf (own1 a z), fun a ha hf => by
    have c : a ∉ S.f i := fun c => hf ⟨i, c⟩
    show Gadd T.G (fun _ => none) (· ∈ S.f i) a = S.G a
    rw [Gadd.out c, t.stp.gold a ha fun z => hf (own1 a z)]
    show Gadd S.G S.H (· ∈ S.f i) a = S.G a
    rw [Gadd.out c], fun a h => .inl h, fun a ha => t.stp.trk a ha⟩, rfl⟩
  have tc2 : Tch [] S ⟨S.pin, Gadd T.G (fun _ => none) (· ∈ S.f i), T.H, S.σ, S.ρ, S.f⟩ := fun j _ => ⟨rfl, rfl, fun a ha o ho => by
    by_cases c : j = i
    · subst c; exact tH a ha o ho
    · exact (tf j c).2 a ha o ho⟩
  refine k [] x ⟨S.pin, Gadd T.G (fun _ => none) (· ∈ S.f i), T.H, S.σ, S.ρ, S.f⟩ hP rfl ok2 to2 tc2 v ?_
  obtain ⟨kd, dd⟩ := x
  cases kd with
  | fz => exact Dt.noD kp (n := 40) hn hv
  | bor j p m' => cases hn
  | new m' =>
    obtain ⟨fp, h1, h2, h3⟩ := hv
    refine ⟨fp, R.noD kp (n := 40) hn h1, h2, fun a ha => ?_⟩
    obtain ⟨q1, q2, q3⟩ := h3 a ha
    have ca : a ∉ S.f i := fun c => by
      obtain ⟨xs, _, z, _⟩ := tG a c
      have q1 : T.G a = none := q1
      rw [z] at q1
      cases q1
    refine ⟨subn a q1, fun ⟨j, hj⟩ => ?_, ?_⟩
    · have hj : a ∈ S.f j := hj
      have cj : j ≠ i := fun z => ca (z ▸ hj)
      exact q2 ⟨j, by rw [(tf j cj).1]; exact hj⟩
    · rcases q3 with z | z
      · exact .inl (own1 a z)
      · exact .inr z
theorem q_lendD (i : Nat) {e : Expr} {we : DE (Kd × D)} (he : PE X e (te X.K W we)) : PE X e (te X.K W (wLendD i we)) := PE.imp he fun _ _ _ h => te_lendD h
@[simp ↓] theorem wLendD_eq {i : Nat} {we : DE (Kd × D)} {P : Po (Kd × D)} : wLendD i we ρ P = lendDK ρ i fun _ d => we (ρ.set i (some (.F, d))) ⟨fun p x ρ' => (p = [] ∧ noDK x = true ∧ ρ' = ρ.set i (some (.F, d))) ∧ P.ok [] x ρ, fun _ _ _ => False⟩ := rfl
@[simp ↓] theorem lendDK_0 {m : Md} {d : D} {q : Md → D → Prop} : lendDK (some (m, d) :: ρ) 0 q = (isDm m = true ∧ q m d) := rfl
@[simp ↓] theorem lendDK_s {x : Option (Md × D)} {i : Nat} {q : Md → D → Prop} : lendDK (x :: ρ) (i + 1) q = lendDK ρ i q := by simp [lendDK]
@[simp ↓] theorem noDK_f {d : D} : noDK (.fz, d) = noD 40 d := rfl
@[simp ↓] theorem noDK_n {m : Md} {d : D} : noDK (.new m, d) = noDM 40 m d := rfl
end
end VL

/-! functions with defaults -/
namespace VL
open PySem PySem.Spec PyProof.Rows L2
section
variable {K : PySem.W.Frag} {S : Sta} {P : Program} {w : World} {mg : Str → Option Value} {base : Heap}
end
end VL

/-! tuples of one's own, that hold things of one's own -/
namespace VL
open PySem PySem.Spec PyProof.Rows L2
section
variable {K : PySem.W.Frag} {W : WX} {G G' H H' H0 : Hp} {σ : L2.St} {ρ : Rho} {f f' : Own} {pin : Nat → Option V} {X : Cx} {S S0 S1 S2 T T1 T2 U : Sta} {E : En} {Z : Ends}
/-- frozen things and new ones, of which no two share an address -/
inductive HasN (K : PySem.W.Frag) (S0 S : Sta) : List V → List (Kd × D) → List Addr → Prop
  | nil : HasN K S0 S [] [] []
  | fz {v : V} {d : D} {vs : List V} {ds : List (Kd × D)} {fp : List Addr} : Dt K S.G v d → HasN K S0 S vs ds fp → HasN K S0 S (v :: vs) ((.fz, d) :: ds) fp
  | new {m : Md} {v : V} {d : D} {fq : List Addr} {vs : List V} {ds : List (Kd × D)} {fp : List Addr} : R K S.G S.H m v d fq → fq.Nodup → (∀ a ∈ fq, S.G a = none ∧ ¬ Ow S.f a ∧ Nw S0 a) → (∀ a ∈ fq, a ∉ fp) → HasN K S0 S vs ds fp → HasN K S0 S (v :: vs) ((.new m, d) :: ds) (fq ++ fp)
theorem HasN.all {vs : List V} {ds : List (Kd × D)} {fp : List Addr} (h : HasN K S0 S vs ds fp) : fp.Nodup ∧ (∀ a ∈ fp, S.G a = none ∧ ¬ Ow S.f a ∧ Nw S0 a) ∧ ∀ a ∈ fp, S.H a ≠ none := by
  induction h with
  | nil => exact ⟨List.nodup_nil, fun _ h => (nomatch h), fun _ h => (nomatch h)⟩
  | fz _ _ ih => exact ih
  | new r n k dj _ ih =>
    refine ⟨List.nodup_append.mpr ⟨n, ih.1, fun a ha b hb c => dj a ha (c ▸ hb)⟩, fun a ha => ?_, fun a ha => ?_⟩
    · exact (List.mem_append.mp ha).elim (k a) (ih.2.1 a)
    · exact (List.mem_append.mp ha).elim (r.has a) (ih.2.2 a)
theorem HasN.from {vs : List V} {ds : List (Kd × D)} {fp : List Addr} (h : HasN K S0 T vs ds fp) (s : S.to S0) : HasN K S T vs ds fp := by
  induction h with
  | nil => exact .nil
  | fz h _ ih => exact .fz h ih
  | new r n k dj _ ih => exact .new r n (fun a ha => ⟨(k a ha).1, (k a ha).2.1, (k a ha).2.2.of s⟩) dj ih
theorem HasN.len {vs : List V} {ds : List (Kd × D)} {fp : List Addr} (h : HasN K S0 S vs ds fp) : vs.length = ds.length := by
  induction h with
  | nil => rfl
  | fz _ _ ih => simp [ih]
  | new _ _ _ _ _ ih => simp [ih]
abbrev lN : Rl (List V) (List (Kd × D)) := fun K S0 S vs xs => ∃ fp, HasN K S0 S vs xs fp
abbrev tn : PySem.W.Frag → WX → DE (List (Kd × D)) → TA := tgen lN
def isFN : Kd → Bool
  | .bor _ _ _ => false
  | _ => true
def wNilN : DE (List (Kd × D)) := fun ρ P => P.ok [] [] ρ
def wConsN (wa : DE (Kd × D)) (wr : DE (List (Kd × D))) : DE (List (Kd × D)) := fun ρ P => wa ρ ⟨fun p1 x ρ1 => wr ρ1 ⟨fun p2 xs ρ2 => isFN x.1 = true ∧ P.ok (p1 ++ p2) (x :: xs) ρ2, P.ex⟩, P.ex⟩
theorem tn_nil {Q : List V → Hp → Prop} (h : tn K W wNilN σ H Q) : tNil σ H Q := by
  obtain ⟨S, P, rfl, rfl, ok, w, k, _⟩ := h
  exact k _ _ S w rfl ok (Sta.refl S) (Tch.refl S _) [] ⟨_, .nil⟩
theorem tn_cons {wa : DE (Kd × D)} {wr : DE (List (Kd × D))} {Q : List V → Hp → Prop} (h : tn K W (wConsN wa wr) σ H Q) : tCons (te K W wa) (tn K W wr) σ H Q := by
  obtain ⟨S, P, rfl, rfl, ok, w, k, ex⟩ := h
  show te K W wa S.σ S.H fun x H1 => tn K W wr S.σ H1 fun xs H2 => Q (x :: xs) H2
  refine ⟨S, _, rfl, rfl, ok, w, fun p1 x S1 w1 e1 ok1 t1 pr1 v1 h1 => ?_, ex⟩
  refine ⟨S1, _, e1, rfl, ok1, w1, fun p2 xs S2 w2 e2 ok2 t2 pr2 vs h2 => ?_, fun C fl T e es okT tT dd hd => ex C fl T e es okT (t1.trans tT) dd hd⟩
  obtain ⟨hi, w2⟩ := w2
  obtain ⟨fp, h2⟩ := h2
  refine k _ _ S2 w2 e2 ok2 (t1.trans t2) (pr1.trans pr2) _ ?_
  obtain ⟨kd, d⟩ := x
  cases kd with
  | bor i q m => cases hi
  | fz => exact ⟨_, .fz (Dt.mono t2.stp.gext h1) (h2.from t1)⟩
  | new m =>
    obtain ⟨fq, r, n, kk⟩ := h1
    refine ⟨_, .new (r.keep t2.stp.gext fun a ha o q => t2.stp.keep a o q (kk a ha).2.1) n (fun a ha => ⟨?_, fun z => ?_, (kk a ha).2.2⟩) (fun a ha c => ?_) (h2.from t1)⟩
    · rw [t2.stp.gold a (r.has a ha) (kk a ha).2.1]; exact (kk a ha).1
    · rcases t2.stp.fnew a z with z | z
      · exact (kk a ha).2.1 z
      · exact r.has a ha z
    · rcases (h2.all.2.1 a c).2.2 with z | z
      · exact (kk a ha).2.1 z
      · exact r.has a ha z
theorem q_nilN : PA X [] (tn X.K W wNilN) := PA.imp pa_nil fun _ _ _ h => tn_nil h
theorem q_consN {e : Expr} {es : List Expr} {wa : DE (Kd × D)} {wr : DE (List (Kd × D))} (ha : PE X e (te X.K W wa)) (hr : PA X es (tn X.K W wr)) (hs : starEach (e :: es) X.env = (false, eval e X.env) :: starEach es X.env := by rfl) : PA X (e :: es) (tn X.K W (wConsN wa wr)) :=
  PA.imp (pa_cons ha hr hs) fun _ _ _ h => tn_cons h
def mdN : Kd → Md
  | .new m => m
  | _ => .F
/-- (x, y, ..), some of them new things -/
def wTupO (wa : DE (List (Kd × D))) : DE (Kd × D) := fun ρ P => wa ρ ⟨fun p xs ρ' => small xs.length = true ∧ P.ok p (.new (.T (xs.map fun x => mdN x.1)), .tup (xs.map (·.2))) ρ', P.ex⟩
theorem HasN.rs {vs : List V} {ds : List (Kd × D)} {fp : List Addr} (h : HasN K S0 S vs ds fp) (e : Ex S.G G') (k : ∀ a ∈ fp, ∀ o, S.H a = some o → H' a = some o) : RS K G' H' (ds.map fun x => mdN x.1) vs (ds.map (·.2)) fp := by
  induction h with
  | nil => exact .nil
  | fz h _ ih =>
    exact RS.cons (fp := []) (.F (h.mono e)) (ih k)
  | new r n kk dj _ ih => exact .cons (r.keep e fun a ha => k a (List.mem_append_left _ ha)) (ih fun a ha => k a (List.mem_append_right _ ha))
theorem te_tupO {wa : DE (List (Kd × D))} {Q : VK} (h : te K W (wTupO wa) σ H Q) : tTup (tn K W wa) σ H Q := by
  obtain ⟨S, P, rfl, rfl, ok, w, k, ex⟩ := h
  refine ⟨S, _, rfl, rfl, ok, w, fun p1 x S1 w1 e1 ok1 t1 pr1 v1 h1 => ?_, ex⟩
  obtain ⟨fp, h1⟩ := h1
  obtain ⟨n1, n2, n3⟩ := h1.all
  refine ⟨by rw [h1.len]; exact small_sz w1.1, fun p hp => ?_⟩
  have g : Grow S1.G S1.H (upd S1.G p (.tup v1)) (upd S1.H p (.tup v1)) := Grow.new ok1.ext hp
  refine k _ _ (S1.at (upd S1.G p (.tup v1)) (upd S1.H p (.tup v1))) w1.2 e1 (Sta.grow ok1 g) (t1.trans g.to) (pr1.add g.tch) _ ?_
  have np : p ∉ fp := fun c => n3 p c hp
  have hu : ∀ a ∈ fp, a ≠ p := fun a ha z => np (z ▸ ha)
  refine ⟨fp, .T upd_same (h1.rs g.gext fun a ha o ho => (upd_ne (hu a ha)).trans ho), n1, fun a ha => ?_⟩
  obtain ⟨q1, q2, q3⟩ := n2 a ha
  exact ⟨(upd_ne (hu a ha)).trans q1, q2, q3⟩
theorem q_tupO {es : List Expr} {x1 : Nat} {pos : Pos} {wa : DE (List (Kd × D))} (h : PA X es (tn X.K W wa)) : PE X (.Tuple es x1 pos) (te X.K W (wTupO wa)) := PE.imp (pe_tup h) fun _ _ _ h => te_tupO h
/-- a, b = x, y, new things -/
def parO (i j : Nat) (xs : List (Kd × D)) (ρ : Rho) (q : Rho → Prop) : Prop := match xs with
  | [(k1, d), (k2, e)] => (notP (mdN k1) = true ∧ notP (mdN k2) = true) ∧ okSlot ρ i = true ∧ okSlot (ρ.set i (some (mdN k1, d))) j = true ∧ q ((ρ.set i (some (mdN k1, d))).set j (some (mdN k2, e)))
  | _ => False
def wParO (i j : Nat) (wa : DE (List (Kd × D))) : DS := fun E ρ => wa ρ ⟨fun _ xs ρ' => parO i j xs ρ' E.nx, E.ex⟩
theorem HasN.one {v : V} {vs : List V} {x : Kd × D} {ds : List (Kd × D)} {fp : List Addr} (h : HasN K S0 S (v :: vs) (x :: ds) fp) : ∃ fq fr, fp = fq ++ fr ∧ R K S.G S.H (mdN x.1) v x.2 fq ∧ HasN K S0 S vs ds fr := by
  cases h with
  | fz h t => exact ⟨[], _, rfl, .F h, t⟩
  | new r n k dj t => exact ⟨_, _, rfl, r, t⟩
@[simp ↓] theorem wNilN_eq {P : Po (List (Kd × D))} : wNilN ρ P = P.ok [] [] ρ := rfl
@[simp ↓] theorem wConsN_eq {wa : DE (Kd × D)} {wr : DE (List (Kd × D))} {P : Po (List (Kd × D))} : wConsN wa wr ρ P = wa ρ ⟨fun p1 x ρ1 => wr ρ1 ⟨fun p2 xs ρ2 => isFN x.1 = true ∧ P.ok (p1 ++ p2) (x :: xs) ρ2, P.ex⟩, P.ex⟩ := rfl
@[simp ↓] theorem wTupO_eq {wa : DE (List (Kd × D))} {P : Po (Kd × D)} : wTupO wa ρ P = wa ρ ⟨fun p xs ρ' => small xs.length = true ∧ P.ok p (.new (.T (xs.map fun x => mdN x.1)), .tup (xs.map (·.2))) ρ', P.ex⟩ := rfl
@[simp ↓] theorem wParO_eq {i j : Nat} {wa : DE (List (Kd × D))} : wParO i j wa E ρ = wa ρ ⟨fun _ xs ρ' => parO i j xs ρ' E.nx, E.ex⟩ := rfl
@[simp ↓] theorem parO_eq {i j : Nat} {k1 k2 : Kd} {d e : D} {q : Rho → Prop} : parO i j [(k1, d), (k2, e)] ρ q = ((notP (mdN k1) = true ∧ notP (mdN k2) = true) ∧ okSlot ρ i = true ∧ okSlot (ρ.set i (some (mdN k1, d))) j = true ∧ q ((ρ.set i (some (mdN k1, d))).set j (some (mdN k2, e)))) := rfl
@[simp ↓] theorem isFN_f : isFN .fz = true := rfl
@[simp ↓] theorem isFN_n {m : Md} : isFN (.new m) = true := rfl
@[simp ↓] theorem mdN_f : mdN .fz = .F := rfl
@[simp ↓] theorem mdN_n {m : Md} : mdN (.new m) = m := rfl
@[simp ↓] theorem dSet_t {ds : List D} {j : Nat} {p : List Nat} {x : D} : dSet (.tup ds) (j :: p) x = match ds[j]? with
  | some d => .tup (ds.set j (dSet d p x))
  | none => .tup ds := by
  show (match ds[j]? with | some d' => setKid (.tup ds) j (dSet d' p x) | none => .tup ds) = _
  cases ds[j]? <;> rfl
@[simp ↓] theorem storeK_T {i : Nat} {ms : List Md} {d : D} {q : Rho → Prop} : storeK i (.new (.T ms), d) ρ q = stK i (.T ms, d) ρ q := by simp [storeK, notP]
@[simp ↓] theorem stK_T {ms : List Md} {d : D} {md : Md × D} {q : Rho → Prop} : stK 0 md (some (.T ms, d) :: ρ) q = q (some md :: ρ) := by simp [stK, okSlot]
@[simp ↓] theorem kAt_T {i : Nat} {p : List Nat} {ms : List Md} : kAt i p (.T ms) = .bor i p (.T ms) := rfl
@[simp ↓] theorem st_T {ms : List Md} : Md.st (.T ms) = .T ms := rfl
@[simp ↓] theorem notP_T {ms : List Md} : notP (.T ms) = true := rfl
@[simp ↓] theorem ixN_20 : ixN 2 0 = some 0 := by decide
@[simp ↓] theorem ixN_21 : ixN 2 1 = some 1 := by decide
@[simp ↓] theorem ixN_30 : ixN 3 0 = some 0 := by decide
@[simp ↓] theorem ixN_31 : ixN 3 1 = some 1 := by decide
@[simp ↓] theorem ixN_32 : ixN 3 2 = some 2 := by decide
/-! isinstance(x, (C1, C2, ..)) of a kept exception -/
def tCs : List V → TA
  | [] => tNil
  | c :: cs => tCons (tC c) (tCs cs)
theorem tCs_to : ∀ {cs : List V} {σ : L2.St} {H : Hp} {Q : List V → Hp → Prop}, Q cs H → tCs cs σ H Q
  | [], _, _, _, h => h
  | c :: cs, σ, H, Q, h => by
    show tCs cs σ H fun xs H2 => Q (c :: xs) H2
    exact tCs_to h
def rIsKM (K : PySem.W.Frag) : List V → Hp → VK → Prop := fun xs H Q => ∃ (a D tp : Addr) (cs : List V) (us : List Value) (b : Bool), xs = [.ref a, .ref tp] ∧ H a = some (VL.ExK (.ref D) a) ∧ ExcC K D ∧ H tp = some (.tup cs) ∧ Paired ClsV cs us ∧ PySem.W.kitAny K (.ref D) us = some b ∧ Q (.bl b) H
theorem call_isKM {X : Cx} : CallR X (.builtin "isinstance") (rIsKM X.K) := by
  intro pins s σ H xs us Q I r h
  obtain ⟨a, D, tp, cs, ws, b, rfl, hH, C, hT, k, e, q⟩ := h
  cases r with
  | cons rx rr =>
    cases rr with
    | cons rt rr =>
      cases rr
      cases rx
      cases rt
      obtain ⟨⟨oe, vs, hget, hz, hv⟩, _, _⟩ := I.hok a _ hH
      have J : PySem.W.InstAt s.heap a oe D none := by
        obtain ⟨oc, od, oda, osl⟩ := oe
        obtain ⟨h1, h2⟩ := hz
        dsimp only at h1 h2 hv
        subst h1 h2 hv
        exact ⟨hget, rfl, rfl, trivial⟩
      obtain ⟨_, its, rv, o, h1, h2, n, h3⟩ := (show ObjOk X.prog X.w H s.heap tp (.tup cs) from I.hok tp _ hT)
      have e3 := ClsV.all k rv
      subst e3
      obtain ⟨oc, od, dt, sl⟩ := o
      simp only at h2 h3
      subst h2 h3
      exact PySem.W.kia_tup (PySem.W.handS_kitx_exc C.hg C.hk C.hs C.hd C.ha C.hn C.ht C.hm) I.kIn J h1 e (fun z => nomatch z) fun tk => ⟨.bl b, H, I.kept (t' := tk) fun _ _ z => z, rfl, q⟩
theorem kany_f {c : Value} {cs : List Value} {t : Value} (h : PySem.W.kitOne K t c = some false) (h2 : PySem.W.kitAny K t cs = some false) : PySem.W.kitAny K t (c :: cs) = some false := by
  unfold PySem.W.kitAny
  rw [h]
  exact h2
theorem te_isKM {C : Addr} {b : Bool} {cs : List V} {us : List Value} {we : DE (Kd × D)} {Q : VK} (hC : ExcC K C) (hl : cs.length ≤ sizeLine) (hp : Paired ClsV cs us) (hk : PySem.W.kitAny K (.ref C) us = some b) (h : te K W (wIsK C b we) σ H Q) : tCB (rIsKM K) (tCons (te K W we) (tCons (tTup (tCs cs)) tNil)) σ H Q := by
  obtain ⟨S, P, rfl, rfl, ok, w, k, ex⟩ := h
  refine ⟨S, _, rfl, rfl, ok, w, fun p x T' e es okT t tc v hv => ?_, ex⟩
  obtain ⟨rfl, q⟩ := e
  have hv : Dt K T'.G v (.exc C) := hv
  cases hv with
  | @exc a _ hG =>
    refine tCs_to ⟨hl, fun p hp0 => ?_⟩
    have g : Grow T'.G T'.H (upd T'.G p (.tup cs)) (upd T'.H p (.tup cs)) := Grow.new okT.ext hp0
    have hGa := okT.ext _ _ hG
    have na : a ≠ p := fun z => by rw [z, hp0] at hGa; cases hGa
    exact ⟨a, C, p, cs, us, b, rfl, by rw [upd_ne na]; exact hGa, hC, upd_same, hp, hk, k _ _ (T'.at (upd T'.G p (.tup cs)) (upd T'.H p (.tup cs))) q es (Sta.grow okT g) (t.trans g.to) (tc.add g.tch) _ (.bl _)⟩
theorem q_isKM {C : Addr} {b : Bool} {e : Expr} {we : DE (Kd × D)} {p pos : Pos} {k1 : Nat} {p2 : Pos} {cs : List V} {us : List Value} {xs : List Expr} (hC : ExcC X.K C) (hp : Paired ClsV cs us) (hk : PySem.W.kitAny X.K (.ref C) us = some b) (hm : X.mg "isinstance" = none) (hcs : PA X xs (tCs cs)) (he : PE X e (te X.K W we)) (hl : cs.length ≤ sizeLine := by decide) (hg : Gl X "isinstance" := by rfl)
    (hs : starEach [e, .Tuple xs k1 p2] X.env = (false, eval e X.env) :: starEach [.Tuple xs k1 p2] X.env := by rfl) (hs2 : starEach [.Tuple xs k1 p2] X.env = (false, eval (.Tuple xs k1 p2) X.env) :: starEach [] X.env := by rfl) (hpl : (backTo pos (starEach [.Tuple xs k1 p2] X.env)).any (·.1) = false := by rfl) :
    PE X (.Call (.Name "isinstance" p) [e, .Tuple xs k1 p2] [] pos) (te X.K W (wIsK C b we)) :=
  PE.imp (pe_callB call_isKM hg hm (by rfl) (pa_cons he (pa_cons (pe_tup hcs) pa_nil hs2) hs) (by decide) (by decide) hs hpl) fun _ _ _ h => te_isKM hC hl hp hk h
end
end VL

/-! dicts whose keys are nested tuples of whole numbers: the rules -/
namespace VL
open PySem PySem.Spec PyProof.Rows L2
section
variable {X : Cx} {pins : List (Addr × Obj)} {σ : L2.St} {H : Hp} {s : Shared}
mutual
theorem nested_is (I : Inv X pins σ H s) : ∀ (k : NestedKey) {v : V} {u : Value}, Dt X.K H v (nkD k) → RelV v u → NestedIs s.heap k u
  | .none, v, u, h, r => by
    rw [nkD] at h
    cases h
    obtain rfl : u = Value.none := r
    exact .none
  | .num i, v, u, h, r => by
    rw [nkD] at h
    cases h
    obtain ⟨t, rfl⟩ := r
    exact .int i t
  | .text x, v, u, h, r => by
    rw [nkD] at h
    cases h
    obtain ⟨t, rfl⟩ := r
    exact .text x t
  | .tup ks, v, u, h, r => by
    rw [nkD] at h
    cases h with
    | tup h1 h2 =>
      obtain rfl : u = Value.ref _ := r
      obtain ⟨its, rl, ⟨o, e, c, n, d⟩, _⟩ := I.tuple h1
      exact .tup e c d (by simpa using nested_all I ks h2 rl)
theorem nested_all (I : Inv X pins σ H s) : ∀ (ks : List NestedKey) {vs : List V} {us : List Value}, DtA X.K H vs (nkDs ks) → Vals vs us → NestedAll s.heap ks us
  | [], vs, us, h, r => by
    rw [nkDs] at h
    cases h
    cases r
    exact .nil
  | k :: ks, vs, us, h, r => by
    rw [nkDs] at h
    cases h with
    | cons h1 h2 =>
      cases r with
      | cons r1 r2 => exact .cons (nested_is I k h1 r1) (nested_all I ks h2 r2)
end
theorem nkGood_of {k : NestedKey} (h : nkGood k = true) : nkOk k = true ∧ isTup k = true ∧ k.depth ≤ 8 := by
  simp only [nkGood, Bool.and_eq_true, Nat.ble_eq] at h
  exact ⟨h.1.1, h.1.2, h.2⟩
abbrev NKeys (K : PySem.W.Frag) (H : Hp) (xs : List NEnt) : Prop := ∀ x ∈ xs, Dt K H (.ref x.2.1) (nkD x.1)
/-- what stands at a key -/
def atN (xs : List NEnt) (k : NestedKey) : Option V := (xs.find? fun x => decide (x.1 = k)).map (·.2.2)
def putN (xs : List NEnt) (k : NestedKey) (b : Addr) (v : V) : List NEnt :=
  if (atN xs k).isSome = true then xs.map (fun x => if x.1 = k then (x.1, x.2.1, v) else x) else xs ++ [(k, b, v)]
theorem NRel.val {xs : List NEnt} {ys : List (NestedKey × Addr × Value)} (r : Paired NRel xs ys) (k : NestedKey) : RelO (atN xs k) ((atKey ys k).map (·.2)) := by
  induction r with
  | nil => trivial
  | @cons p q l1 l2 h t ih =>
    unfold atN atKey at *
    by_cases c : p.1 = k
    · have c' : q.1 = k := by rw [← h.1]; exact c
      simp [List.find?_cons, c, c']
      exact h.2.2
    · have c' : ¬ q.1 = k := by rw [← h.1]; exact c
      simpa [List.find?_cons, c, c'] using ih
theorem NRel.some_iff {xs : List NEnt} {ys : List (NestedKey × Addr × Value)} (r : Paired NRel xs ys) (k : NestedKey) : (atN xs k).isSome = (atKey ys k).isSome := by
  have := (NRel.val r k).isSome_eq
  rwa [Option.isSome_map] at this
theorem NRel.putMap {xs : List NEnt} {ys : List (NestedKey × Addr × Value)} (r : Paired NRel xs ys) (k : NestedKey) {v : V} {u : Value} (rv : RelV v u) : Paired NRel (xs.map (fun x => if x.1 = k then (x.1, x.2.1, v) else x)) (ys.map (putAt k u)) := by
  induction r with
  | nil => exact .nil
  | @cons p q l1 l2 h t ih =>
    refine .cons ?_ ih
    show NRel (if p.1 = k then (p.1, p.2.1, v) else p) (putAt k u q)
    unfold putAt
    by_cases c : p.1 = k
    · have c' : q.1 = k := by rw [← h.1]; exact c
      rw [if_pos c, if_pos c']
      exact ⟨h.1, h.2.1, rv⟩
    · have c' : ¬ q.1 = k := by rw [← h.1]; exact c
      rw [if_neg c, if_neg c']
      exact h
theorem NRel.put {xs : List NEnt} {ys : List (NestedKey × Addr × Value)} (r : Paired NRel xs ys) (k : NestedKey) (b : Addr) {v : V} {u : Value} (rv : RelV v u) : Paired NRel (putN xs k b v) (storedH ys k b u) := by
  unfold putN storedH
  rw [NRel.some_iff r k]
  split
  · exact NRel.putMap r k rv
  · exact Paired.snoc r ⟨rfl, rfl, rv⟩
theorem NRel.fst {xs : List NEnt} {ys : List (NestedKey × Addr × Value)} (r : Paired NRel xs ys) : ys.map (·.1) = xs.map (·.1) := by
  induction r with
  | nil => rfl
  | cons h t ih => simp [ih, h.1]
theorem NRel.mem {xs : List NEnt} {ys : List (NestedKey × Addr × Value)} (r : Paired NRel xs ys) : ∀ y ∈ ys, ∃ x ∈ xs, x.1 = y.1 ∧ x.2.1 = y.2.1 := by
  induction r with
  | nil => intro y h; exact nomatch h
  | @cons p q l1 l2 h t ih =>
    intro y hy
    rcases List.mem_cons.mp hy with rfl | hy
    · exact ⟨p, List.mem_cons_self, h.1, h.2.1⟩
    · obtain ⟨x, hx, e⟩ := ih y hy
      exact ⟨x, List.mem_cons_of_mem _ hx, e⟩
theorem putN_len {xs : List NEnt} {k : NestedKey} {b : Addr} {v : V} : (putN xs k b v).length ≤ xs.length + 1 := by
  unfold putN
  split <;> simp
theorem putN_mem {xs : List NEnt} {k : NestedKey} {b : Addr} {v : V} : ∀ x ∈ putN xs k b v, (∃ y ∈ xs, y.1 = x.1 ∧ y.2.1 = x.2.1) ∨ (x.1 = k ∧ x.2.1 = b) := by
  intro x hx
  unfold putN at hx
  split at hx
  · obtain ⟨y, hy, rfl⟩ := List.mem_map.mp hx
    refine .inl ⟨y, hy, ?_⟩
    split <;> exact ⟨rfl, rfl⟩
  · rcases List.mem_append.mp hx with h | h
    · exact .inl ⟨x, h, rfl, rfl⟩
    · have e : x = (k, b, v) := by simpa using h
      subst e
      exact .inr ⟨rfl, rfl⟩
theorem nd_of {a : Addr} {ep : Nat} {xs : List NEnt} (I : Inv X pins σ H s) (e : H a = some (NDo a ep xs)) (hk : NKeys X.K H xs) :
    xs.length ≤ sizeLine ∧ (a == sysModules) = false ∧ (xs.map (·.1)).Nodup ∧ (∀ x ∈ xs, nkGood x.1 = true) ∧ ∃ ys, Paired NRel xs ys ∧ s.heap.DictOfH (nestedKind X.prog X.w) a ys := by
  obtain ⟨⟨z, hd, nd, good, ys, o, es, r, ho, hx, hdt, he⟩, _⟩ := (show ObjOk X.prog X.w H s.heap a (NDo a ep xs) from I.hok a _ e)
  refine ⟨z, hd, nd, good, ys, r, o, es, ep, ho, hx, hdt, ?_, fun y hy => ?_, by rw [NRel.fst r]; exact nd⟩
  · rw [he]
    refine List.map_congr_left fun y hy => ?_
    obtain ⟨x, hx, e1, _⟩ := NRel.mem r y hy
    have g := (nkGood_of (good x hx)).1
    rw [e1] at g
    show (⟨_, _, _⟩ : DictEntry) = ⟨y.1.hash X.w, _, _⟩
    rw [nkHash_eq X.w y.1 g]
  · obtain ⟨x, hx, e1, e2⟩ := NRel.mem r y hy
    have q := hk x hx
    rw [e2, e1] at q
    refine ⟨nested_is I y.1 q rfl, ?_⟩
    have g := (nkGood_of (good x hx)).2.2
    rw [e1] at g
    exact g
theorem nd_mk {P : Program} {w : World} {H' : Hp} {h : Heap} {a : Addr} {xs : List NEnt} {ys : List (NestedKey × Addr × Value)} (z : xs.length ≤ sizeLine) (hd : (a == sysModules) = false) (good : ∀ x ∈ xs, nkGood x.1 = true) (r : Paired NRel xs ys)
    (d : h.DictOfH (nestedKind P w) a ys) : ∃ ep, ObjOk P w H' h a (NDo a ep xs) := by
  obtain ⟨o, es, ep, ho, hx, hdt, he, _, nd⟩ := d
  have hes : es.toList = ys.map fun x => ⟨nkHash x.1, .ref x.2.1, x.2.2⟩ := by
    rw [he]
    refine List.map_congr_left fun y hy => ?_
    obtain ⟨x, hx, e1, _⟩ := NRel.mem r y hy
    have g := (nkGood_of (good x hx)).1
    rw [e1] at g
    show (⟨y.1.hash w, _, _⟩ : DictEntry) = _
    rw [nkHash_eq w y.1 g]
  refine ⟨ep, ⟨z, hd, by rw [← NRel.fst r]; exact nd, good, ys, o, es, r, ho, hx, hdt, hes⟩, ⟨o, ho⟩, ?_⟩
  rintro h1 h2 ⟨z, hd, nd, good, ys, o, es, r, ho, q⟩ k
  exact ⟨z, hd, nd, good, ys, o, es, r, k o ho, q⟩
theorem nd_empty {P : Program} {w : World} {H' : Hp} (h : Heap) (hb : sysModules < h.objs.size) : ObjOk P w H' (h.push { cls := .type "dict", data := .dict #[] }) h.objs.size (NDo h.objs.size 0 []) := by
  have hne : (h.objs.size == sysModules) = false := by
    simp only [beq_eq_false_iff_ne]
    exact fun e => Nat.lt_irrefl _ (Nat.lt_of_lt_of_le hb (Nat.le_of_eq e))
  have e0 : ([] : List NEnt).length ≤ sizeLine := Nat.zero_le _
  have e1 : (([] : List NEnt).map (·.1)).Nodup := by simp
  have e2 : ∀ x ∈ ([] : List NEnt), nkGood x.1 = true := fun x hx => nomatch hx
  refine ⟨⟨e0, hne, e1, e2, [], _, #[], Paired.nil, Heap.get?_push_size _ rfl, ⟨rfl, rfl, rfl⟩, rfl, rfl⟩, ⟨_, Heap.get?_push_size _ rfl⟩, ?_⟩
  rintro h1 h2 ⟨z, hd, nd, good, ys, o, es, r, ho, q⟩ k
  exact ⟨z, hd, nd, good, ys, o, es, r, k o ho, q⟩
def tDNewN : TE := fun _ H Q => ∀ p, H p = none → Q (.ref p) (upd H p (NDo p 0 []))
/-- what a dict holds at a key -/
def NGet (K : PySem.W.Frag) (H : Hp) (a : Addr) (y : V) (o : Option V) : Prop := ∃ (ep : Nat) (xs : List NEnt) (k : NestedKey) (b : Addr), H a = some (NDo a ep xs) ∧ NKeys K H xs ∧ y = .ref b ∧ Dt K H (.ref b) (nkD k) ∧ nkGood k = true ∧ atN xs k = o
abbrev NRoom (X : Cx) : Prop := X.A.units + 64 < cLine
theorem NRoom.in1 (h : NRoom X) : (nestedKind X.prog X.w).room X.A.in1 := by
  show X.A.units + 1 + 8 < cLine
  have h : X.A.units + 64 < cLine := h
  omega
theorem NRoom.in0 (h : NRoom X) : (nestedKind X.prog X.w).room X.A := by
  show X.A.units + 8 < cLine
  have h : X.A.units + 64 < cLine := h
  omega
theorem n_is {I : Inv X pins σ H s} {b : Addr} {k : NestedKey} (h : Dt X.K H (.ref b) (nkD k)) (g : nkGood k = true) : (nestedKind X.prog X.w).is s.heap k b := ⟨nested_is I k h rfl, (nkGood_of g).2.2⟩
def rNIn (K : PySem.W.Frag) (neg : Bool) : R2 := fun y x H Q => ∃ a o, x = .ref a ∧ NGet K H a y o ∧ Q (.bl (if neg then !o.isSome else o.isSome)) H
def rIxN (K : PySem.W.Frag) : R2 := fun x y H Q => ∃ a v, x = .ref a ∧ NGet K H a y (some v) ∧ Q v H
theorem nd_type {a : Addr} {ep : Nat} {xs : List NEnt} (I : Inv X pins σ H s) (e : H a = some (NDo a ep xs)) : s.TypeIs (.ref a) "dict" := by
  obtain ⟨⟨z, hd, nd, good, ys, o, es, r, ho, hx, hdt, he⟩, _⟩ := (show ObjOk X.prog X.w H s.heap a (NDo a ep xs) from I.hok a _ e)
  exact ⟨o, ho, hx.1⟩
theorem ix_nd (hu : NRoom X) : IxR X (rIxN X.K) := by
  intro value slice pins s σ H x y v u Q I rx ry h hs
  obtain ⟨a, z, rfl, ⟨ep, xs, k, b, e, hk, rfl, hb, g, l⟩, q⟩ := h
  obtain rfl : v = Value.ref a := rx
  obtain rfl : u = Value.ref b := ry
  obtain ⟨z1, hd, nd, good, ys, r, dd⟩ := nd_of I e hk
  have rv := NRel.val r k
  rw [l] at rv
  obtain ⟨w', hw, rw'⟩ := RelO.some_of (v := z) (o := (atKey ys k).map (·.2)) rv
  obtain ⟨p, hp, hp2⟩ := Option.map_eq_some_iff.mp hw
  refine tail_any (nd_type I e) slot_dict_getitem.lookup (wpAny_getItem_heap hu.in1 (n_is (I := I) hb g) dd hp ?_) hs
  rw [hp2]
  exact ⟨z, H, I.tok _, rw', q⟩
/-- a[y] = v -/
def rSetN (K : PySem.W.Frag) : TSet := fun o i v H Q => ∃ a ep xs k b, o = .ref a ∧ i = .ref b ∧ H a = some (NDo a ep xs) ∧ NKeys K H xs ∧ Dt K H (.ref b) (nkD k) ∧ nkGood k = true ∧ xs.length < sizeLine ∧ ∀ ep', Q (upd H a (NDo a ep' (putN xs k b v)))
theorem set_nd (hu : NRoom X) : PSet X (rSetN X.K) := by
  intro pins s σ H o i v ov iv u Q I ro ri rv h
  obtain ⟨a, ep, xs, k, b, rfl, rfl, e, hk, hb, g, l, q⟩ := h
  obtain rfl : ov = Value.ref a := ro
  obtain rfl : iv = Value.ref b := ri
  obtain ⟨z, hd, nd, good, ys, r, dd⟩ := nd_of I e hk
  have hz : ys.length ≤ sizeLine := by rw [← Paired.length r]; exact z
  refine wpAny_setItem_heap (hsz := hz) hu.in1 (n_is (I := I) hb g) dd fun h' dd' hs => ?_
  have hl : (putN xs k b v).length ≤ sizeLine := by have := putN_len (xs := xs) (k := k) (b := b) (v := v); omega
  have he : ∃ q, h'.get? a = some q := let ⟨q, _, _, hq, _⟩ := dd'; ⟨q, hq⟩
  have good' : ∀ x ∈ putN xs k b v, nkGood x.1 = true := fun x hx => by
    rcases putN_mem x hx with ⟨y, hy, e1, _⟩ | ⟨e1, _⟩
    · rw [← e1]; exact good y hy
    · rw [e1]; exact g
  obtain ⟨ep', ok⟩ := nd_mk (H' := H) hl hd good' (NRel.put r k b rv) dd'
  refine ⟨_, d_write I (ob := NDo a ep' (putN xs k b v)) (by rw [e]; exact True.intro) hs he ok, q ep'⟩
/-- len, list -/
theorem call_lenN : CallR X (.builtin "len") (fun xs H Q => ∃ a ep es, xs = [V.ref a] ∧ H a = some (NDo a ep es) ∧ NKeys X.K H es ∧ Q (.int es.length) H) := by
  intro pins s σ H xs us Q I r h
  obtain ⟨a, ep, es, rfl, e, hk, q⟩ := h
  obtain ⟨u, rfl, ru⟩ := vals1 r
  obtain rfl : u = Value.ref a := ru
  obtain ⟨z, hd, nd, good, ys, r, dd⟩ := nd_of I e hk
  have hl : ys.length = es.length := (Paired.length r).symm
  have dk : s.heap.DictKeyed (nestedKind X.prog X.w) a (pairsH ys) := ⟨ys, dd, rfl⟩
  refine call_len_slot (n := es.length) (nd_type I e) F.slot_dict_len (fun Q' hq => len_keyed hd dk (by rw [pairsH_length, hl]; exact hq)) (by omega) (by rw [sizeLine_eq] at z; omega) ?_
  exact ⟨.int es.length, H, I.tok _, ⟨_, rfl⟩, q⟩
theorem call_listN (hc : X.calm = true) : CallR X (.type "list") (fun xs H Q => ∃ a ep es, xs = [V.ref a] ∧ H a = some (NDo a ep es) ∧ NKeys X.K H es ∧ ∀ p, H p = none → Q (.ref p) (upd H p (.lst (es.map fun x => .ref x.2.1)))) := by
  intro pins s σ H xs us Q I r h
  obtain ⟨a, ep, es, rfl, e, hk, q⟩ := h
  obtain ⟨u, rfl, ru⟩ := vals1 r
  obtain rfl : u = Value.ref a := ru
  obtain ⟨⟨z, hd, nd, good, ys, o, ds, rr, ho, hx, hdt, he⟩, _⟩ := (show ObjOk X.prog X.w H s.heap a (NDo a ep es) from I.hok a _ e)
  have hl : es.length = ys.length := Paired.length rr
  have hsz : ds.size = ys.length := by
    have := congrArg List.length he
    simpa using this
  refine PySem.W.kdl_call (kdl_raw (prog := X.prog) (w := X.w) (d := a) hd hx hdt) (I.ok.hd hc) ho (by rw [hsz, ← hl]; exact z) fun h' tk acc' c' hkeep hS hacc => ?_
  refine ⟨.ref s.heap.objs.size, upd H s.heap.objs.size (.lst (es.map fun x => .ref x.2.1)), I.laid hkeep (Nat.le_refl _) (show ObjOk X.prog X.w _ _ _ (.lst (es.map fun x => .ref x.2.1)) from ⟨?_, acc'.toList, c', ?_, ?_⟩), rfl, q _ (I.hok.fresh (Nat.le_refl _))⟩
  · rw [List.length_map]; exact z
  · have el : acc'.toList.length = acc'.size := by simp
    refine vals_of_at (by rw [List.length_map, el, hacc.1, hl, hsz]) fun j x w h1 h2 => ?_
    obtain ⟨en, hen, rfl⟩ := hacc.2 j w (by rw [← Array.getElem?_toList]; exact h2)
    rw [← Array.getElem?_toList, he, List.getElem?_map] at hen
    rw [List.getElem?_map] at h1
    cases e1 : ys[j]? with
    | none => rw [e1] at hen; cases hen
    | some y =>
      rw [e1] at hen
      cases e2 : es[j]? with
      | none => rw [e2] at h1; cases h1
      | some x0 =>
        rw [e2] at h1
        obtain ⟨y', ey, rel⟩ := paired_get rr e2
        rw [e1] at ey
        cases ey
        cases h1
        cases hen
        show _ = _
        rw [rel.2.1]
  · rw [Array.toArray_toList]; exact hS
/-- the keys, one by one, of a dict that stays -/
def ItN (d : Addr) (ep : Nat) (xs : List NEnt) : It :=
  ⟨fun i H => H d = some (NDo d ep xs) ∧ i < xs.length, fun i H x H' => H' = H ∧ ∃ e, xs[i]? = some e ∧ x = .ref e.2.1, fun i H => H d = some (NDo d ep xs) ∧ xs.length ≤ i⟩
theorem turn_nd {P : Program} {w : World} {K : PySem.W.Frag} {tg : Expr} {d : Addr} {ep : Nat} {xs : List NEnt} (it : Addr) : Turn P w K tg (ItN d ep xs) [it] it (fun i h => h.IsKeyIter it d i xs.length ep) where
  mem := by simp
  obj := fun i h st b hb => by
    have e : b = it := by simpa using hb
    subst e
    obtain ⟨oi, e, c, dd⟩ := st
    exact ⟨oi, e, fun v z => by rw [dd] at z; cases z⟩
  keep := fun i h h' st k => st.at fun oi e => k it (by simp) oi e
  item := by
    intro X hP hw hK hc i pins s σ H E I hf st hg
    subst hP hw hK
    obtain ⟨hd, hi⟩ := hg
    obtain ⟨f0, f1, f2, f3, f4, f5⟩ := hf it (by simp)
    obtain ⟨⟨z, hsys, nd, good, ys, o, es, r, hgd, hx, hdt, he⟩, _⟩ := (show ObjOk X.prog X.w H s.heap d (NDo d ep xs) from I.hok d _ hd)
    have hl : xs.length = ys.length := Paired.length r
    have hsz : es.size = xs.length := by
      have := congrArg List.length he
      rw [hl]
      simpa using this
    have e2 : xs[i]? = some xs[i] := List.getElem?_eq_getElem hi
    obtain ⟨y, ey, rel⟩ := paired_get r e2
    have hen : es[i]? = some ⟨nkHash y.1, .ref y.2.1, y.2.2⟩ := by
      rw [← Array.getElem?_toList, he, List.getElem?_map, ey]; rfl
    refine next_key_item st hgd hdt hsz hen fun h' st' sb => ?_
    have I1 : Inv X pins σ H { s with heap := h' } := I.turned (t' := s.toks) (fun b ob hb e => (sb.2 b hb).trans e) f0 f1 f3 f4 f5
    obtain ⟨oi, e, c, dd⟩ := id st'
    refine ⟨_, rfl, go_of (s := { s with heap := h' }) e c dd (by decide) ⟨.ref xs[i].2.1, H, I1, ?_, ⟨rfl, _, e2, rfl⟩, st', fun b hb => (hf b hb).1⟩⟩
    show Value.ref y.2.1 = Value.ref xs[i].2.1
    rw [rel.2.1]
  done := by
    intro X hP hw hK hc i pins s σ H E I hf st hg
    subst hP hw hK
    obtain ⟨hd, hi⟩ := hg
    obtain ⟨f0, f1, f2, f3, f4, f5⟩ := hf it (by simp)
    obtain ⟨⟨z, hsys, nd, good, ys, o, es, r, hgd, hx, hdt, he⟩, _⟩ := (show ObjOk X.prog X.w H s.heap d (NDo d ep xs) from I.hok d _ hd)
    have hl : xs.length = ys.length := Paired.length r
    have hsz : es.size = xs.length := by
      have := congrArg List.length he
      rw [hl]
      simpa using this
    exact next_key_end (I.ok.hd hc) st hgd hdt hsz hi fun h' eb => ⟨rfl, I.turned (t' := s.toks) (fun b ob hb e => eb b ob hb e) f0 f1 f3 f4 f5⟩
  self := fun A i s Q E st h => wpAny_pyIter_keyiter st h
def iND (td : TE) : TI := fun σ H R => td σ H fun x H1 => ∃ d ep xs, x = .ref d ∧ H1 d = some (NDo d ep xs) ∧ R (ItN d ep xs) H1
theorem pi_nd {tg e : Expr} {td : TE} (he : PE X e td) : PI X tg e (iND td) := by
  refine ⟨fun pins s σ H R I h => ?_⟩
  refine thn (he.run pins s σ H _ I h) fun u s1 ⟨x, H1, I1, rx, d, ep, xs, ex, hd, q⟩ => ?_
  subst ex
  obtain rfl : u = Value.ref d := rx
  obtain ⟨⟨z, hsys, nd, good, ys, o, es, r, hgd, hx, hdt, hes⟩, _⟩ := (show ObjOk X.prog X.w H1 s1.heap d (NDo d ep xs) from I1.hok d _ hd)
  have hl : xs.length = ys.length := Paired.length r
  have hsz : es.size = xs.length := by
    have := congrArg List.length hes
    rw [hl]
    simpa using this
  refine iter_keys hsys hgd hx hdt (pi_one (tk := s1.toks) I1 _ (turn_nd _) ⟨_, Heap.get?_push_size _ rfl, rfl, ?_⟩ q)
  rw [hsz] <;> rfl
end
end VL

/-! dicts with nested keys by data -/
namespace VL
open PySem PySem.Spec PyProof.Rows L2
section
variable {K : PySem.W.Frag} {W : WX} {G G' H H' : Hp} {σ : L2.St} {X : Cx} {ρ : Rho} {S S0 T : Sta} {Z : Ends}
mutual
/-- data as a key -/
def nkOf : D → Option NestedKey
  | .non => some .none
  | .int i => some (.num i)
  | .tup ds => match nkOfs ds with
    | some ks => some (.tup ks)
    | none => none
  | _ => none
def nkOfs : List D → Option (List NestedKey)
  | [] => some []
  | d :: ds => match nkOf d, nkOfs ds with
    | some k, some ks => some (k :: ks)
    | _, _ => none
end
mutual
theorem nkOf_D : ∀ {d : D} {k : NestedKey}, nkOf d = some k → nkD k = d
  | .non, k, h => by simp only [nkOf, Option.some.injEq] at h; subst h; rfl
  | .int i, k, h => by simp only [nkOf, Option.some.injEq] at h; subst h; simp [nkD]
  | .tup ds, k, h => by
    simp only [nkOf] at h
    split at h
    · rename_i ks e
      cases h
      rw [nkD, nkOfs_D e]
    · cases h
  | .bl _, k, h => by simp [nkOf] at h
  | .str _, k, h => by simp [nkOf] at h
  | .lst _, k, h => by simp [nkOf] at h
  | .dct _, k, h => by simp [nkOf] at h
  | .obj _ _, k, h => by simp [nkOf] at h
  | .scr _, k, h => by simp [nkOf] at h
  | .exc _, k, h => by simp [nkOf] at h
  | .ndc _, k, h => by simp [nkOf] at h
theorem nkOfs_D : ∀ {ds : List D} {ks : List NestedKey}, nkOfs ds = some ks → nkDs ks = ds
  | [], ks, h => by simp only [nkOfs, Option.some.injEq] at h; subst h; rfl
  | d :: ds, ks, h => by
    simp only [nkOfs] at h
    split at h
    · rename_i k ks' e1 e2
      cases h
      rw [nkDs, nkOf_D e1, nkOfs_D e2]
    · cases h
end
/-- a key of such a dict -/
def keyN (d : D) : Option NestedKey := match nkOf d with
  | some k => if nkGood k = true then some k else none
  | none => none
theorem keyN_of {d : D} {k : NestedKey} (h : keyN d = some k) : nkD k = d ∧ nkGood k = true := by
  unfold keyN at h
  split at h
  · rename_i k' e
    split at h
    · rename_i g
      cases h
      exact ⟨nkOf_D e, g⟩
    · cases h
  · cases h
theorem keyN_ref {v : V} {d : D} {k : NestedKey} (h : keyN d = some k) (hv : Dt K G v d) : ∃ b, v = .ref b ∧ Dt K G (.ref b) (nkD k) ∧ nkGood k = true := by
  obtain ⟨e, g⟩ := keyN_of h
  have t := (nkGood_of g).2.1
  cases k with
  | tup ks =>
    rw [nkD] at e
    subst e
    cases hv with
    | tup h1 h2 => exact ⟨_, rfl, .tup h1 h2, g⟩
  | _ => cases t
def valN (ds : List (NestedKey × D)) (k : NestedKey) : Option D := (ds.find? fun x => decide (x.1 = k)).map (·.2)
def putND (ds : List (NestedKey × D)) (k : NestedKey) (d : D) : List (NestedKey × D) :=
  if (valN ds k).isSome = true then ds.map (fun x => if x.1 = k then (x.1, d) else x) else ds ++ [(k, d)]
theorem DtN.len : ∀ {xs : List NEnt} {ds : List (NestedKey × D)}, DtN K G xs ds → xs.length = ds.length
  | _, _, .nil => rfl
  | _, _, .cons _ _ t => by simp [DtN.len t]
theorem DtN.keys : ∀ {xs : List NEnt} {ds : List (NestedKey × D)}, DtN K G xs ds → NKeys K G xs
  | _, _, .nil, x, hx => nomatch hx
  | _, _, .cons h _ t, x, hx => by
    rcases List.mem_cons.mp hx with rfl | hx
    · exact h
    · exact DtN.keys t x hx
theorem DtN.names : ∀ {xs : List NEnt} {ds : List (NestedKey × D)}, DtN K G xs ds → DtA K G (xs.map fun x => .ref x.2.1) (ds.map fun x => nkD x.1)
  | _, _, .nil => .nil
  | _, _, .cons h _ t => .cons h (DtN.names t)
theorem DtN.val {k : NestedKey} : ∀ {xs : List NEnt} {ds : List (NestedKey × D)}, DtN K G xs ds → (valN ds k = none ∧ atN xs k = none) ∨ ∃ v d, valN ds k = some d ∧ atN xs k = some v ∧ Dt K G v d
  | _, _, .nil => .inl ⟨rfl, rfl⟩
  | _, _, .cons (k := k') _ h t => by
    by_cases c : k' = k
    · refine .inr ⟨_, _, ?_, ?_, h⟩
      · simp [valN, List.find?_cons, c]
      · simp [atN, List.find?_cons, c]
    · rcases DtN.val (k := k) t with ⟨e1, e2⟩ | ⟨v, d, e1, e2, hd⟩
      · exact .inl ⟨by simpa [valN, List.find?_cons, c] using e1, by simpa [atN, List.find?_cons, c] using e2⟩
      · exact .inr ⟨v, d, by simpa [valN, List.find?_cons, c] using e1, by simpa [atN, List.find?_cons, c] using e2, hd⟩
theorem DtN.isS {k : NestedKey} {xs : List NEnt} {ds : List (NestedKey × D)} (h : DtN K G xs ds) : (atN xs k).isSome = (valN ds k).isSome := by
  rcases h.val (k := k) with ⟨e1, e2⟩ | ⟨v, d, e1, e2, _⟩
  · rw [e1, e2]; rfl
  · rw [e1, e2]; rfl
theorem DtN.putMap {k : NestedKey} {v : V} {d : D} (hv : Dt K G v d) : ∀ {xs : List NEnt} {ds : List (NestedKey × D)}, DtN K G xs ds → DtN K G (xs.map fun x => if x.1 = k then (x.1, x.2.1, v) else x) (ds.map fun x => if x.1 = k then (x.1, d) else x)
  | _, _, .nil => .nil
  | _, _, .cons (k := k') hb h t => by
    simp only [List.map_cons]
    by_cases c : k' = k
    · rw [if_pos c, if_pos c]; exact .cons hb hv (DtN.putMap hv t)
    · rw [if_neg c, if_neg c]; exact .cons hb h (DtN.putMap hv t)
theorem DtN.append : ∀ {xs ys : List NEnt} {ds es : List (NestedKey × D)}, DtN K G xs ds → DtN K G ys es → DtN K G (xs ++ ys) (ds ++ es)
  | _, _, _, _, .nil, h => h
  | _, _, _, _, .cons a b t, h => .cons a b (DtN.append t h)
theorem DtN.put {k : NestedKey} {b : Addr} {v : V} {d : D} {xs : List NEnt} {ds : List (NestedKey × D)} (h : DtN K G xs ds) (hb : Dt K G (.ref b) (nkD k)) (hv : Dt K G v d) : DtN K G (putN xs k b v) (putND ds k d) := by
  unfold putN putND
  rw [h.isS]
  split
  · exact DtN.putMap hv h
  · exact h.append (.cons hb hv .nil)
/-- such a dict: frozen or somebody's own -/
def ndcK (x : Kd × D) (q : List (NestedKey × D) → Prop) : Prop := match x with
  | (.fz, .ndc ds) => q ds
  | (.bor _ _ .N, .ndc ds) => q ds
  | (.new .N, .ndc ds) => q ds
  | _ => False
theorem Has.ndcR (ok : S.ok K) {x : Kd × D} {v : V} {q : List (NestedKey × D) → Prop} (h : Has K S0 S x.1 v x.2) (e : ndcK x q) : ∃ a ep xs ds, v = .ref a ∧ S.H a = some (NDo a ep xs) ∧ DtN K S.G xs ds ∧ q ds := by
  unfold ndcK at e
  split at e
  · cases h with
    | ndc hG hk => exact ⟨_, _, _, _, rfl, ok.ext _ _ hG, hk, e⟩
  · obtain ⟨fq, r, _⟩ := h.bor_R ok
    cases r with
    | N hG hk => exact ⟨_, _, _, _, rfl, hG, hk, e⟩
  · obtain ⟨fq, r, _⟩ := h
    cases r with
    | N hG hk => exact ⟨_, _, _, _, rfl, hG, hk, e⟩
  · exact e.elim
/-! in -/
def isNdc : D → Bool
  | .ndc _ => true
  | _ => false
def oInX : O2 := fun x y q => if isNdc y.2 = true then optK (keyN x.2) fun k => ndcK y fun ds => q (.fz, .bl (valN ds k).isSome) else oIn x y q
def oNotInX : O2 := fun x y q => if isNdc y.2 = true then optK (keyN x.2) fun k => ndcK y fun ds => q (.fz, .bl (!(valN ds k).isSome)) else oNotIn x y q
/-! subscripts -/
def idxD (ds : List (Key × D)) (k : Key) : Option Nat := ds.findIdx? fun x => decide (x.1 = k)
def oIxX : O2 := fun x y q => match x with
  | (.bor i p (.M m), .dct ds) => optK (keyOf y.2) fun key => optK (idxD ds key) fun j => optK ds[j]? fun kd => q (kAt i (p ++ [j]) m, kd.2)
  | (kd, .ndc ds) => optK (keyN y.2) fun k => ndcK (kd, .ndc ds) fun ds => optK (valN ds k) fun d => q (.fz, d)
  | x => oIx x y q
theorem RK.len {m : Md} : ∀ {vs : List (Key × V)} {ds : List (Key × D)} {fp : List Addr}, RK K G H m vs ds fp → vs.map (·.1) = ds.map (·.1)
  | _, _, _, .nil => rfl
  | _, _, _, .cons h t => by simp [RK.len t]
theorem idxD_val : ∀ {vs : List (Key × V)} {ds : List (Key × D)} {key : Key} {j : Nat}, vs.map (·.1) = ds.map (·.1) → idxD ds key = some j → ∃ v, vs[j]? = some (key, v) ∧ valV vs key = some v
  | [], [], _, _, _, h => by simp [idxD] at h
  | [], _ :: _, _, _, e, _ => by simp at e
  | _ :: _, [], _, _, e, _ => by simp at e
  | x :: vs, d :: ds, key, j, e, h => by
    simp only [List.map_cons, List.cons.injEq] at e
    unfold idxD at h
    rw [List.findIdx?_cons] at h
    by_cases c : d.1 = key
    · simp only [c, decide_true, if_true, Option.some.injEq] at h
      subst h
      obtain ⟨x1, x2⟩ := x
      have ex : x1 = key := by rw [← c]; exact e.1
      exact ⟨x2, by simp [ex], valV_pos ex⟩
    · simp only [c, decide_false, Bool.false_eq_true, if_false] at h
      obtain ⟨j', hj, rfl⟩ := Option.map_eq_some_iff.mp h
      obtain ⟨v, h1, h2⟩ := idxD_val (vs := vs) (ds := ds) (key := key) (j := j') e.2 hj
      refine ⟨v, by simpa using h1, ?_⟩
      rw [valV_neg (by rw [e.1]; exact c)]
      exact h2
theorem Rch.snoc_dK : ∀ {H : Hp} {v0 v x : V} {p : List Nat} {a : Addr} {xs : List (Key × V)} {j : Nat} {k : Key}, Rch H v0 p v → v = .ref a → H a = some (.dK xs) → xs[j]? = some (k, x) → Rch H v0 (p ++ [j]) x
  | _, _, _, _, _, _, _, _, _, .here, e, h, i => by subst e; exact .dK h i .here
  | _, _, _, _, _, _, _, _, _, .lst h1 i1 t, e, h, i => .lst h1 i1 (Rch.snoc_dK t e h i)
  | _, _, _, _, _, _, _, _, _, .ins h1 i1 t, e, h, i => .ins h1 i1 (Rch.snoc_dK t e h i)
  | _, _, _, _, _, _, _, _, _, .tup h1 i1 t, e, h, i => .tup h1 i1 (Rch.snoc_dK t e h i)
  | _, _, _, _, _, _, _, _, _, .dK h1 i1 t, e, h, i => .dK h1 i1 (Rch.snoc_dK t e h i)
theorem ok_IxX : OkR2 K (fun x y H Q => (rIx K x y H Q ∨ rIxDK x y H Q) ∨ rIxN K x y H Q) oIxX := fun S0 S x y dx dy Q q ok hx hy h k => by
  unfold oIxX at h
  split at h
  · rename_i i p m ds
    obtain ⟨key, ek, h⟩ := optK_of h
    obtain ⟨j, ej, h⟩ := optK_of h
    obtain ⟨kd, ed, qd⟩ := optK_of h
    obtain ⟨fq, r, _⟩ := hx.bor_R ok
    have hyv := (hy.dt ok).key ek
    subst hyv
    cases r with
    | @M _ a xs _ fp hG rk =>
      obtain ⟨v, e1, e2⟩ := idxD_val rk.len ej
      refine .inl (.inr ⟨a, v, rfl, ?_, stay ok k qd (v := v) ?_⟩)
      · have := DGet.k (k := key) hG
        rwa [e2] at this
      · obtain ⟨m0, d0, v0, h1, h2, h3, h4, h5⟩ := hx
        exact Has.of_at ok h1 h2 (Rch.snoc_dK h3 rfl hG e1) (mAt_snoc h4 rfl) (dAt_snoc h5 (by simp only [dKid, ed]))
  · rename_i kd ds
    obtain ⟨key, ek, h⟩ := optK_of h
    obtain ⟨a, ep, xs, ds', rfl, hG, hk, qb⟩ := Has.ndcR (x := (kd, .ndc ds)) ok hx h
    obtain ⟨d, ed, qd⟩ := optK_of qb
    obtain ⟨b, rfl, hb, g⟩ := keyN_ref ek (hy.dt ok)
    rcases hk.val (k := key) with ⟨e1, _⟩ | ⟨v, d', e1, e2, hd⟩
    · rw [e1] at ed; cases ed
    · rw [e1] at ed; cases ed
      exact .inr ⟨a, v, rfl, ⟨ep, xs, key, b, hG, (hk.mono ok.ext).keys, rfl, hb, g, e2⟩, stay ok k qd hd⟩
  · exact .inl (ok_Ix S0 S x y _ dy Q q ok hx hy h k)
theorem q_ixX {a b : Expr} {wa wb : DE (Kd × D)} {pos : Pos} (hu : NRoom X) (ha : PE X a (te X.K W wa)) (hb : PE X b (te X.K W wb)) (hs : PlainIx b := by first | exact fun _ _ => rfl | (intro _ _; with_unfolding_all rfl)) : PE X (.Subscript a b pos) (te X.K W (wOp oIxX wa wb)) :=
  q_ix ((ix_seq.or (ix_dict (by have h : X.A.units + 64 < cLine := hu; omega))).or (ix_nd hu)) ok_IxX ha hb hs
/-! len, list -/
def oLenX : OL := fun xs q => one1 xs fun x => if isNdc x.2 = true then ndcK x fun ds => q (.fz, .int ds.length) else oLen [x] q
theorem call_lenX : CallR X (.builtin "len") (fun xs H Q => rLenU X.K xs H Q ∨ ∃ a ep es, xs = [V.ref a] ∧ H a = some (NDo a ep es) ∧ NKeys X.K H es ∧ Q (.int es.length) H) := CallR.or call_lenU call_lenN
theorem ok_LenX : OkRL K (fun xs H Q => rLenU K xs H Q ∨ ∃ a ep es, xs = [V.ref a] ∧ H a = some (NDo a ep es) ∧ NKeys K H es ∧ Q (.int es.length) H) oLenX := fun S0 S vs xs Q q ok hA h0 k => by
  obtain ⟨x, rfl, h⟩ := one1_of h0
  split at h
  · obtain ⟨v, rfl, hx⟩ := hA.one
    obtain ⟨a, ep, es, ds, rfl, hG, hk, qn⟩ := hx.ndcR ok h
    refine .inr ⟨a, ep, es, rfl, hG, (hk.mono ok.ext).keys, ?_⟩
    rw [hk.len]
    exact stay ok k qn (v := .int _) (.int _)
  · exact .inl (ok_Len S0 S vs [x] Q q ok hA h k)
def oListX : OL := fun xs q => one1 xs fun x => if isNdc x.2 = true then ndcK x fun ds => q (.new (.L .F), .lst (ds.map fun y => nkD y.1)) else oList [x] q
theorem call_listX (hc : X.calm = true) : CallR X (.type "list") (fun xs H Q => rListU X.K xs H Q ∨ ∃ a ep es, xs = [V.ref a] ∧ H a = some (NDo a ep es) ∧ NKeys X.K H es ∧ ∀ p, H p = none → Q (.ref p) (upd H p (.lst (es.map fun x => .ref x.2.1)))) := CallR.or (call_listU hc) (call_listN hc)
theorem ok_ListX : OkRL K (fun xs H Q => rListU K xs H Q ∨ ∃ a ep es, xs = [V.ref a] ∧ H a = some (NDo a ep es) ∧ NKeys K H es ∧ ∀ p, H p = none → Q (.ref p) (upd H p (.lst (es.map fun x => .ref x.2.1)))) oListX := fun S0 S vs xs Q q ok hA h0 k => by
  obtain ⟨x, rfl, h⟩ := one1_of h0
  split at h
  · obtain ⟨v, rfl, hx⟩ := hA.one
    obtain ⟨a, ep, es, ds, rfl, hG, hk, qn⟩ := hx.ndcR ok h
    exact .inr ⟨a, ep, es, rfl, hG, (hk.mono ok.ext).keys, fun p hp => new_lst ok k qn hk.names hp⟩
  · exact .inl (ok_List S0 S vs [x] Q q ok hA h k)
/-! {} -/
def wDicN : DE (Kd × D) := fun ρ P => P.ok [] (.new .N, .ndc []) ρ
/-! a[k] = v -/
theorem Has.ndO (ok : T.ok K) {i : Nat} {p : List Nat} {v : V} {ds : List (NestedKey × D)} (h : Has K S0 T (.bor i p .N) v (.ndc ds)) : ∃ a ep xs, v = .ref a ∧ T.H a = some (NDo a ep xs) ∧ DtN K T.G xs ds ∧ T.G a = none ∧ Lent K T i p .N (.ref a) (.ndc ds) [a] := by
  obtain ⟨fq, l⟩ := h.lent ok
  have r := l.r
  cases r with
  | N ha t => exact ⟨_, _, _, rfl, ha, t, ok.out i _ (l.sub _ List.mem_cons_self), l⟩
theorem nd_put (ok : T.ok K) {i : Nat} {p : List Nat} {a : Addr} {ds ds' : List (NestedKey × D)} {ep : Nat} {xs' : List NEnt} (l : Lent K T i p .N (.ref a) (.ndc ds) [a]) (h' : DtN K T.G xs' ds') :
    ∃ U : Sta, U.ok K ∧ T.to U ∧ Tch [i] T U ∧ U.σ = T.σ ∧ U.H = upd T.H a (NDo a ep xs') ∧ U.ρ = setAt T.ρ i p (.ndc ds') ∧ U.G = T.G := by
  obtain ⟨f2, z1, z2, z3⟩ := mut_state (o' := NDo a ep xs') (d' := .ndc ds') ok l List.mem_cons_self (.N upd_same h') (by simp) (fun b hb => hb)
  exact ⟨_, z1, z2, z3, rfl, rfl, rfl, rfl⟩
def subNK (r y : Kd × D) (v : D) (q : Nat → List Nat → D → Prop) : Prop := match r, y with
  | (.bor i p .N, .ndc ds), (.fz, d) => optK (keyN d) fun k => small (ds.length + 1) = true ∧ q i p (.ndc (putND ds k v))
  | _, _ => False
/-- a store into such a dict -/
def wSubN (wv wr wi : DE (Kd × D)) : DS := fun E ρ => wFz wv ρ ⟨fun _ x ρ1 => x.1.md = some .F ∧ wr ρ1 ⟨fun _ r ρ2 => wFz wi ρ2 ⟨fun p3 y ρ3 => hold r.1 p3 = true ∧ subNK r y x.2 fun i p d' => E.nx (setAt ρ3 i p d'), E.ex⟩, E.ex⟩, E.ex⟩
theorem ts_subN {wv wr wi : DE (Kd × D)} (h : ts K W (wSubN wv wr wi) Z σ H) : tAsg (te K W wv) (gSub (te K W wr) (te K W wi) (rSetN K)) Z σ H := by
  obtain ⟨S, E, rfl, rfl, ok, w, l⟩ := h
  unfold tAsg gSub
  refine te_fz (te_in ok l w fun p x T e es okT t _ v hv => ?_)
  rw [← es]
  have l1 := l.to t
  have hvF : Dt K T.G v x.2 := by
    obtain ⟨kd, d⟩ := x
    rcases Kd.md_F e.1 with e9 | e9
    · have e9 : kd = .fz := e9
      subst e9; exact hv
    · have e9 : kd = .new .F := e9
      subst e9
      obtain ⟨fp, r, _⟩ := hv
      exact r.F_inv.1
  refine te_in okT l1 e.2 fun p2 r T2 e2 es2 ok2 t2 _ o hr => ?_
  rw [← es2]
  have l2 := l1.to t2
  refine te_fz (te_in ok2 l2 e2 fun p3 y T3 e3 es3 ok3 t3 c3 i hy => ?_)
  rw [← es3]
  have l3 := l2.to t3
  have hr3 := hr.stp ok2 t3 es3 c3 e3.1
  have hv3 : Dt K T3.G v x.2 := (hvF.mono t2.stp.gext).mono t3.stp.gext
  have e4 : subNK r y x.2 fun i p d' => E.nx (setAt T3.ρ i p d') := e3.2
  unfold subNK at e4
  split at e4
  · rename_i j p ds d0
    obtain ⟨key, ek, sm, e4⟩ := optK_of e4
    obtain ⟨a, ep, xs, rfl, ha, hx, ga, ll⟩ := hr3.ndO ok3
    obtain ⟨b, rfl, hb, g⟩ := keyN_ref (K := K) (G := T3.G) ek hy
    refine ⟨a, ep, xs, key, b, rfl, rfl, ha, (hx.mono ok3.ext).keys, hb.mono ok3.ext, g, by rw [hx.len]; exact small_lt sm, fun ep' => ?_⟩
    obtain ⟨U, okU, tU, cU, uσ, uH, uρ, uG⟩ := nd_put (ep := ep') ok3 ll (hx.put hb hv3)
    have z := l3.nx U (by rw [uρ]; exact e4) okU tU
    rw [uσ, uH] at z
    exact z
  · exact e4.elim
theorem q_subN {o i e : Expr} {wr wi wv : DE (Kd × D)} {p pos : Pos} (hu : NRoom X) (ho : PE X o (te X.K W wr)) (hi : PE X i (te X.K W wi)) (he : PE X e (te X.K W wv)) (hs : swapsWithSole [.Subscript o i p] e pos.line X.env = pure false := by rfl) (hw : swappedStores [.Subscript o i p] e X.env = pure none := by rfl)
    (h1 : (assignEach [.Subscript o i p] X.env).map (·.2) = [assign (.Subscript o i p) X.env] := by rfl)
    (hz : ∀ z, assign (.Subscript o i p) X.env z = (do let a ← holding [z] (eval o X.env); let b ← holding [z, a] (eval i X.env); standAt p; holding [z, a, b] (setItem a b z); release [z, a, b] []) := by intro _; rfl) : PS X (.Assign [.Subscript o i p] e pos) (ts X.K W (wSubN wv wr wi)) := PS.imp (ps_asg he (pg_sub ho hi (set_nd hu) hz) hs hw h1) fun _ _ _ h => ts_subN h
/-! for k in d: the dict is frozen -/
theorem DtN.ent : ∀ {xs : List NEnt} {ds : List (NestedKey × D)}, DtN K G xs ds → ∀ {i : Nat} {d : D}, (ds.map fun x => nkD x.1)[i]? = some d → ∀ {e : NEnt}, xs[i]? = some e → Dt K G (.ref e.2.1) d
  | _, _, .nil, i, d, h, e, h' => by simp at h
  | _, _, .cons hb h t, 0, d, h1, e, h2 => by
    simp at h1 h2
    subst h1; subst h2
    exact hb
  | _, _, .cons hb h t, i + 1, d, h1, e, h2 => DtN.ent t (i := i) (by simpa using h1) (by simpa using h2)
theorem src_nd {a : Addr} {ep : Nat} {xs : List NEnt} {ds : List (NestedKey × D)} (h : G a = some (NDo a ep xs)) (hd : DtN K G xs ds) : Src K G (ItN a ep xs) (ds.map fun x => nkD x.1) := fun G1 H1 e1 e2 i => by
  have h1 := e2 _ _ (e1 _ _ h)
  have hl : (ds.map fun x => nkD x.1).length = xs.length := by rw [List.length_map, hd.len]
  refine ⟨fun hi => ⟨h1, by rw [← hl]; exact hi⟩, fun hi => ⟨h1, by rw [← hl]; exact hi⟩, fun x H2 d hy he => ?_⟩
  obtain ⟨rfl, en, hen, rfl⟩ := hy
  exact ⟨G1, Grow.refl e2, ((hd.mono e1).ent (i := i) he hen)⟩
def itnK (x : Kd × D) (q : List D → Prop) : Prop := match x with
  | (.fz, .ndc ds) => q (ds.map fun x => nkD x.1)
  | _ => False
def wItN (we : DE (Kd × D)) : DE (List D) := fun ρ P => wFz we ρ ⟨fun p x ρ' => itnK x fun ds => P.ok p ds ρ', P.ex⟩
theorem ti_nd {we : DE (Kd × D)} {R : It → Hp → Prop} (h : ti K W (wItN we) σ H R) : iND (te K W we) σ H R := by
  obtain ⟨S, P, rfl, rfl, ok, w, k, ex⟩ := h
  unfold iND
  refine te_fz ⟨S, _, rfl, rfl, ok, w, fun p x T e es okT t tc v hv => ?_, ex⟩
  have e : itnK x (fun ds => P.ok p ds T.ρ) := e
  unfold itnK at e
  split at e
  · cases hv with
    | ndc hl ha => exact ⟨_, _, _, rfl, okT.ext _ _ hl, k _ _ T e es okT t tc _ (src_nd hl ha)⟩
  · exact e.elim
theorem qi_nd {tg e : Expr} {we : DE (Kd × D)} (he : PE X e (te X.K W we)) : PI X tg e (ti X.K W (wItN we)) := PI.imp (pi_nd he) fun _ _ _ h => ti_nd h
end
/-! by simp -/
section
variable {ρ : Rho} {P : Po (Kd × D)} {PL : Po (List D)} {E : En} {q : Kd × D → Prop} {k k' : Kd}
@[simp ↓] theorem storeK_N {i : Nat} {d : D} {q : Rho → Prop} : storeK i (.new .N, d) ρ q = stK i (.N, d) ρ q := by simp [storeK, notP]
@[simp ↓] theorem storeK_M {i : Nat} {m : Md} {d : D} {q : Rho → Prop} : storeK i (.new (.M m), d) ρ q = stK i (.M m, d) ρ q := by simp [storeK, notP]
@[simp ↓] theorem kAt_N {i : Nat} {p : List Nat} : kAt i p .N = .bor i p .N := rfl
@[simp ↓] theorem kAt_M {i : Nat} {p : List Nat} {m : Md} : kAt i p (.M m) = .bor i p (.M m) := rfl
@[simp ↓] theorem st_N : Md.st .N = .N := rfl
@[simp ↓] theorem st_M {m : Md} : Md.st (.M m) = .M m := rfl
@[simp ↓] theorem notP_N : notP .N = true := rfl
@[simp ↓] theorem notP_M {m : Md} : notP (.M m) = true := rfl
@[simp ↓] theorem stK_N {d : D} {md : Md × D} {q : Rho → Prop} : stK 0 md (some (.N, d) :: ρ) q = q (some md :: ρ) := by simp [stK, okSlot]
@[simp ↓] theorem stK_M {m : Md} {d : D} {md : Md × D} {q : Rho → Prop} : stK 0 md (some (.M m, d) :: ρ) q = q (some md :: ρ) := by simp [stK, okSlot]
@[simp ↓] theorem ndcK_f {ds : List (NestedKey × D)} {q : List (NestedKey × D) → Prop} : ndcK (.fz, .ndc ds) q = q ds := rfl
@[simp ↓] theorem ndcK_b {i : Nat} {p : List Nat} {ds : List (NestedKey × D)} {q : List (NestedKey × D) → Prop} : ndcK (.bor i p .N, .ndc ds) q = q ds := rfl
@[simp ↓] theorem ndcK_n {ds : List (NestedKey × D)} {q : List (NestedKey × D) → Prop} : ndcK (.new .N, .ndc ds) q = q ds := rfl
@[simp ↓] theorem oInX_n {x : Kd × D} {ds : List (NestedKey × D)} : oInX x (k, .ndc ds) q = optK (keyN x.2) fun key => ndcK (k, .ndc ds) fun ds => q (.fz, .bl (valN ds key).isSome) := rfl
@[simp ↓] theorem oInX_t {x : Kd × D} {ds : List D} : oInX x (k, .tup ds) q = oIn x (k, .tup ds) q := rfl
@[simp ↓] theorem oInX_l {x : Kd × D} {ds : List D} : oInX x (k, .lst ds) q = oIn x (k, .lst ds) q := rfl
@[simp ↓] theorem oInX_d {x : Kd × D} {ds : List (Key × D)} : oInX x (k, .dct ds) q = oIn x (k, .dct ds) q := rfl
@[simp ↓] theorem oNotInX_n {x : Kd × D} {ds : List (NestedKey × D)} : oNotInX x (k, .ndc ds) q = optK (keyN x.2) fun key => ndcK (k, .ndc ds) fun ds => q (.fz, .bl (!(valN ds key).isSome)) := rfl
@[simp ↓] theorem oNotInX_t {x : Kd × D} {ds : List D} : oNotInX x (k, .tup ds) q = oNotIn x (k, .tup ds) q := rfl
@[simp ↓] theorem oNotInX_l {x : Kd × D} {ds : List D} : oNotInX x (k, .lst ds) q = oNotIn x (k, .lst ds) q := rfl
@[simp ↓] theorem oNotInX_d {x : Kd × D} {ds : List (Key × D)} : oNotInX x (k, .dct ds) q = oNotIn x (k, .dct ds) q := rfl
@[simp ↓] theorem oIxX_n {y : Kd × D} {ds : List (NestedKey × D)} : oIxX (k, .ndc ds) y q = optK (keyN y.2) fun key => ndcK (k, .ndc ds) fun ds => optK (valN ds key) fun d => q (.fz, d) := by
  cases k with
  | bor i p m => cases m <;> rfl
  | _ => rfl
@[simp ↓] theorem oIxX_M {i : Nat} {p : List Nat} {m : Md} {y : Kd × D} {ds : List (Key × D)} : oIxX (.bor i p (.M m), .dct ds) y q = optK (keyOf y.2) fun key => optK (idxD ds key) fun j => optK ds[j]? fun kd => q (kAt i (p ++ [j]) m, kd.2) := rfl
@[simp ↓] theorem oLenX_n {ds : List (NestedKey × D)} : oLenX [(k, .ndc ds)] q = ndcK (k, .ndc ds) fun ds => q (.fz, .int ds.length) := rfl
@[simp ↓] theorem oLenX_l {ds : List D} : oLenX [(k, .lst ds)] q = oLen [(k, .lst ds)] q := rfl
@[simp ↓] theorem oLenX_t {ds : List D} : oLenX [(k, .tup ds)] q = oLen [(k, .tup ds)] q := rfl
@[simp ↓] theorem oListX_n {ds : List (NestedKey × D)} : oListX [(k, .ndc ds)] q = ndcK (k, .ndc ds) fun ds => q (.new (.L .F), .lst (ds.map fun y => nkD y.1)) := rfl
@[simp ↓] theorem oListX_l {ds : List D} : oListX [(k, .lst ds)] q = oList [(k, .lst ds)] q := rfl
@[simp ↓] theorem oListX_t {ds : List D} : oListX [(k, .tup ds)] q = oList [(k, .tup ds)] q := rfl
@[simp ↓] theorem oListX_d {ds : List (Key × D)} : oListX [(k, .dct ds)] q = oList [(k, .dct ds)] q := rfl
@[simp ↓] theorem wDicN_eq : wDicN ρ P = P.ok [] (.new .N, .ndc []) ρ := rfl
@[simp ↓] theorem wSubN_eq {wv wr wi : DE (Kd × D)} : wSubN wv wr wi E ρ = wv ρ ⟨fun _ x ρ1 => x.1.frz.md = some .F ∧ wr ρ1 ⟨fun _ r ρ2 => wi ρ2 ⟨fun p3 y ρ3 => hold r.1 p3 = true ∧ subNK r (y.1.frz, y.2) x.2 fun i p d' => E.nx (setAt ρ3 i p d'), E.ex⟩, E.ex⟩, E.ex⟩ := rfl
@[simp ↓] theorem subNK_n {i : Nat} {p : List Nat} {ds : List (NestedKey × D)} {d v : D} {q : Nat → List Nat → D → Prop} : subNK (.bor i p .N, .ndc ds) (.fz, d) v q = optK (keyN d) fun k => small (ds.length + 1) = true ∧ q i p (.ndc (putND ds k v)) := rfl
@[simp ↓] theorem wItN_eq {we : DE (Kd × D)} : wItN we ρ PL = we ρ ⟨fun p x ρ' => itnK (x.1.frz, x.2) fun ds => PL.ok p ds ρ', PL.ex⟩ := rfl
@[simp ↓] theorem itnK_f {ds : List (NestedKey × D)} {q : List D → Prop} : itnK (.fz, .ndc ds) q = q (ds.map fun x => nkD x.1) := rfl
@[simp ↓] theorem isN_nd {ds : List (NestedKey × D)} : isN (.ndc ds) = false := rfl
end
end VL

/-! sorted lists of data; {k: v} with a nested key -/
namespace VL
open PySem PySem.Spec PyProof.Rows L2
section
variable {X : Cx} {pins : List (Addr × Obj)} {σ : L2.St} {H : Hp} {s : Shared}
def rSortedG (K : PySem.W.Frag) : List V → Hp → VK → Prop := fun vs H Q => ∃ (a : Addr) (bs : List (V × PyData)), vs = [V.ref a] ∧ SqL K H a (bs.map (·.1)) ∧ (∀ p ∈ bs, Dp K H p.1 p.2) ∧ PySem.W.AllAlike (bs.map (·.2)) ∧ PySem.W.Sortable (bs.map (·.2)) ∧ (∀ p ∈ bs, p.2.depth ≤ 60) ∧
  ∀ q, H q = none → Q (.ref q) (upd H q (.lst ((bs.mergeSort (PySem.W.dataLe false (·.2))).map (·.1))))
theorem each_of (I : Inv X pins σ H s) : ∀ {bs : List (V × PyData)} {us : List Value}, Vals (bs.map (·.1)) us → (∀ p ∈ bs, Dp X.K H p.1 p.2) →
    PySem.W.EachIs (fun u p => RelV p.1 u) us bs ∧ PySem.W.EachIs (fun v p => ∃ as, Reads s.heap v p.2 as) us bs
  | [], _, r, _ => by cases r; exact ⟨.nil, .nil⟩
  | p :: bs, _, r, h => by
    cases r with
    | cons r1 r2 =>
      obtain ⟨h1, h2⟩ := each_of I r2 fun q hq => h q (List.mem_cons_of_mem _ hq)
      exact ⟨.cons r1 h1, .cons (Dp.reads I _ _ _ (h p List.mem_cons_self) r1) h2⟩
theorem vals_each : ∀ {us : List Value} {bs : List (V × PyData)}, PySem.W.EachIs (fun u (p : V × PyData) => RelV p.1 u) us bs → Vals (bs.map (·.1)) us
  | _, _, .nil => .nil
  | _, _, .cons h t => .cons h (vals_each t)
theorem cr_sortedG (hu : X.A.units + 64 < cLine) : CallR X (.builtin "sorted") (rSortedG X.K) := by
  intro pins s σ H vs us Q I r h
  obtain ⟨a, bs, rfl, hs, hd, hal, hk, hdep, q⟩ := h
  obtain ⟨its, rv, hl, hz⟩ := I.list hs
  obtain ⟨u, rfl, ru⟩ := vals1 r
  obtain rfl : u = Value.ref a := ru
  obtain ⟨e1, e2⟩ := each_of I rv hd
  rw [List.length_map] at hz
  refine PySem.W.sorted_data (enc := (·.2)) hl.isList e1 e2 hal hk hz (fun b hb => by have := hdep b hb; omega) fun out ho hout => ?_
  obtain ⟨ep, he'⟩ := PyProof.Rows.sortedAll_at s.heap its out.toArray
  have hlen : ((bs.mergeSort (PySem.W.dataLe false (·.2))).map (·.1)).length ≤ sizeLine := by
    rw [List.length_map, List.length_mergeSort]
    exact hz
  exact ⟨.ref _, upd H (s.heap.objs.size + 1) (.lst ((bs.mergeSort (PySem.W.dataLe false (·.2))).map (·.1))), I.laid (t' := s.toks) (fun _ _ => PyProof.Rows.sortedAll_old) (Nat.le_succ _) ⟨hlen, out, ep, vals_each hout, he'⟩, rfl, q _ (I.hok.fresh (Nat.le_succ _))⟩
/-- {k: v} -/
def tDispN (K : PySem.W.Frag) (tk tv : TE) : TE := fun σ H Q => ∀ p, H p = none → tk σ (upd H p (NDo p 0 [])) fun y H1 => tv σ H1 fun v H2 => ∃ b k, H2 p = some (NDo p 0 []) ∧ y = .ref b ∧ Dt K H2 (.ref b) (nkD k) ∧ nkGood k = true ∧ ∀ ep, Q (.ref p) (upd H2 p (NDo p ep [(k, b, v)]))
theorem pe_dispN {pos : Pos} {k v : Expr} {tk tv : TE} (hu : NRoom X) (hk : PE X k tk) (hv : PE X v tv) : PE X (.Dict [some k] [v] pos) (tDispN X.K tk tv) := by
  refine ⟨fun pins s σ H Q I q => ?_⟩
  have hn := I.hok.fresh (Nat.le_refl s.heap.objs.size)
  have I1 := I.laid (a := s.heap.objs.size) (o := NDo s.heap.objs.size 0 []) (h' := s.heap.push { cls := .type "dict", data := .dict #[] }) (t' := s.toks) (fun _ _ q => Heap.get?_push_of_some _ q) (Nat.le_refl _) (nd_empty s.heap I.big)
  have pp : PPs X pos [some k] [v] [(tk, tv)] := pps_cons hk hv pps_nil
  rw [arm_eval_Dict, zip_pairTrees [some k] [v] X.env pos rfl rfl, dictDisplay_pairs _ (by simp [pairTrees]) (by simp [pairTrees])]
  refine wpAny_bind (wpAny_standAt (wpAny_bind (wpAny_subDictH (knd := nestedKind X.prog X.w) (Q := fun d s' => wpAny (model X.prog X.w) X.A (pure (Value.ref d)) (EP X pins σ Q) X.xe s') hu.in0 (by simp [pairTrees]) ?_)))
  refine thn (pp.run pins _ σ _ (fun ps H3 => match ps with
    | [(y, v)] => ∃ b k, H3 s.heap.objs.size = some (NDo s.heap.objs.size 0 []) ∧ y = .ref b ∧ Dt X.K H3 (.ref b) (nkD k) ∧ nkGood k = true ∧ ∀ ep, Q (.ref s.heap.objs.size) (upd H3 s.heap.objs.size (NDo s.heap.objs.size ep [(k, b, v)]))
    | _ => False) I1 (q _ hn)) fun ws s2 ⟨ps, H2, I2, rel, q2⟩ => ?_
  cases rel with
  | nil => exact q2.elim
  | @cons pq kv _ _ h t =>
    cases t with
    | cons _ _ => exact q2.elim
    | nil =>
      obtain ⟨y, v'⟩ := pq
      obtain ⟨ku, vu⟩ := kv
      obtain ⟨b, k', e, rfl, hb, g, q2⟩ := q2
      obtain rfl : ku = Value.ref b := h.1
      obtain ⟨z, hd, nd, good, ys, r, dd⟩ := nd_of I2 e (fun x hx => nomatch hx)
      cases r
      refine ⟨[(k', b, vu)], ⟨rfl, rfl, n_is (I := I2) hb g, trivial⟩, dd, fun h' tk' dk hs => ?_⟩
      have e3 : ∃ o, h'.get? s.heap.objs.size = some o := let ⟨o, _, _, ho, _⟩ := dk; ⟨o, ho⟩
      have em : storedAllH [] [(k', b, vu)] = [(k', b, vu)] := rfl
      rw [em] at dk
      have rel1 : Paired NRel [(k', b, v')] [(k', b, vu)] := .cons ⟨rfl, rfl, h.2⟩ .nil
      obtain ⟨ep', ok⟩ := nd_mk (H' := upd H2 s.heap.objs.size (NDo s.heap.objs.size 0 [])) (xs := [(k', b, v')]) (show 1 ≤ sizeLine by decide) hd (fun x hx => by
        have ex : x = (k', b, v') := by simpa using hx
        subst ex
        exact g) rel1 dk
      exact wpAny_pure ⟨.ref s.heap.objs.size, _, d_write (t' := tk') I2 (ob := NDo s.heap.objs.size ep' [(k', b, v')]) (by rw [e]; exact True.intro) hs e3 ok, rfl, q2 ep'⟩
end
section
variable {K : PySem.W.Frag} {W : WX} {G G' H H' : Hp} {σ : L2.St} {X : Cx} {ρ : Rho} {S S0 T : Sta} {Z : Ends}
def leD (x y : D) : Bool := PySem.W.dataLe false pdOf x y
def oSortedX : OL := fun xs q => one1 xs fun x => lstK x fun ds => ((∀ d ∈ ds, pdK 40 d = true) ∧ PySem.W.AllAlike (ds.map pdOf) ∧ PySem.W.Sortable (ds.map pdOf)) ∧ q (.new (.L .F), .lst (ds.mergeSort leD))
theorem DtA.zipM : ∀ {vs : List V} {ds : List D}, DtA K G vs ds → (vs.zip ds).map (·.1) = vs ∧ (vs.zip ds).map (·.2) = ds ∧ ∀ p ∈ vs.zip ds, Dt K G p.1 p.2
  | _, _, .nil => ⟨rfl, rfl, fun _ h => nomatch h⟩
  | _, _, .cons h t => by
    obtain ⟨h1, h2, h3⟩ := DtA.zipM t
    refine ⟨by simp [h1], by simp [h2], fun p hp => ?_⟩
    simp only [List.zip_cons_cons] at hp
    rcases List.mem_cons.mp hp with rfl | hp
    · exact h
    · exact h3 p hp
theorem DtA.ofZip : ∀ {ps : List (V × D)}, (∀ p ∈ ps, Dt K G p.1 p.2) → DtA K G (ps.map (·.1)) (ps.map (·.2))
  | [], _ => .nil
  | p :: ps, h => .cons (h p List.mem_cons_self) (DtA.ofZip fun q hq => h q (List.mem_cons_of_mem _ hq))
theorem ok_SortedX : OkRL K (rSortedG K) oSortedX := fun S0 S vs xs Q q ok hA h0 k => by
  obtain ⟨x, rfl, h⟩ := one1_of h0
  obtain ⟨v, rfl, hx⟩ := hA.one
  obtain ⟨a, ys, ds, rfl, h1, h2, ⟨hp, hal, hk⟩, h⟩ := hx.lstR ok h
  obtain ⟨z1, z2, z3⟩ := h2.zipM
  have m2 : ((ys.zip ds).map fun p => (p.1, pdOf p.2)).map (·.2) = ds.map pdOf := by
    conv => rhs; rw [← z2]
    rw [List.map_map, List.map_map]
    rfl
  refine ⟨a, (ys.zip ds).map fun p => (p.1, pdOf p.2), rfl, ?_, ?_, by rw [m2]; exact hal, by rw [m2]; exact hk, ?_, fun p hp' => ?_⟩
  · rw [List.map_map]
    have : ((fun x : V × PyData => x.1) ∘ fun p : V × D => (p.1, pdOf p.2)) = fun p : V × D => p.1 := rfl
    rw [this, z1]
    exact .of h1
  · intro p hp'
    obtain ⟨r, hr, rfl⟩ := List.mem_map.mp hp'
    have hm : r.2 ∈ ds := by rw [← z2]; exact List.mem_map.mpr ⟨r, hr, rfl⟩
    exact ((z3 r hr).mono ok.ext).dp (hp _ hm)
  · intro p hp'
    obtain ⟨r, hr, rfl⟩ := List.mem_map.mp hp'
    have hm : r.2 ∈ ds := by rw [← z2]; exact List.mem_map.mpr ⟨r, hr, rfl⟩
    have := (pdK_ok (hp _ hm)).2
    show (pdOf r.2).depth ≤ 60
    omega
  · have e1 : ((ys.zip ds).map fun p => (p.1, pdOf p.2)).mergeSort (PySem.W.dataLe false (·.2)) = ((ys.zip ds).mergeSort fun p p' => leD p.2 p'.2).map fun p => (p.1, pdOf p.2) :=
      (PySem.W.sort_maps (r := fun p p' : V × D => leD p.2 p'.2) (s := PySem.W.dataLe false fun p : V × PyData => p.2) (fun p : V × D => (p.1, pdOf p.2)) (fun _ _ _ _ => rfl)).symm
    have e2 : (((ys.zip ds).mergeSort fun p p' => leD p.2 p'.2).map (·.2)) = ds.mergeSort leD := by
      have := PySem.W.sort_maps (r := fun p p' : V × D => leD p.2 p'.2) (s := leD) (l := ys.zip ds) (fun p : V × D => p.2) (fun _ _ _ _ => rfl)
      rw [this, z2]
    rw [e1, List.map_map]
    have hz : ∀ p ∈ (ys.zip ds).mergeSort fun p p' => leD p.2 p'.2, Dt K S.G p.1 p.2 := fun p hp => z3 p (List.mem_mergeSort.mp hp)
    have := DtA.ofZip hz
    rw [e2] at this
    exact new_lst ok k h this hp'
def wDispN (wk wv : DE (Kd × D)) : DE (Kd × D) := fun ρ P => wFz wk ρ ⟨fun p1 x ρ1 => wFz wv ρ1 ⟨fun p2 y ρ2 => (hold x.1 p2 = true ∧ allFz [x, y] = true) ∧ optK (keyN x.2) fun k => P.ok (p1 ++ p2) (.new .N, .ndc [(k, y.2)]) ρ2, P.ex⟩, P.ex⟩
theorem te_dispN {wk wv : DE (Kd × D)} {Q : VK} (h : te K W (wDispN wk wv) σ H Q) : tDispN K (te K W wk) (te K W wv) σ H Q := by
  obtain ⟨S, P, rfl, rfl, ok, w, k, ex⟩ := h
  intro p hp
  have g : Grow S.G S.H S.G (upd S.H p (NDo p 0 [])) := Grow.own ok.ext hp
  have ok0 := Sta.grow ok g
  have gp : S.G p = none := ok.ext.free hp
  have np : ¬ Ow S.f p := fun z => ok.own z hp
  refine te_fz ⟨S.at S.G (upd S.H p (NDo p 0 [])), _, rfl, rfl, ok0, w, fun p1 x S1 w1 e1 ok1 t1 pr1 v1 h1 => ?_, fun C fl T e es okT tT dd hd => ex C fl T e es okT (g.to.trans tT) dd hd⟩
  refine te_fz ⟨S1, _, e1, rfl, ok1, w1, fun p2 y S2 w2 e2 ok2 t2 pr2 v2 h2 => ?_, fun C fl T e es okT tT dd hd => ex C fl T e es okT (g.to.trans (t1.trans tT)) dd hd⟩
  obtain ⟨⟨hh, hf⟩, w2⟩ := w2
  obtain ⟨kx, dx⟩ := x
  obtain ⟨ky, dy⟩ := y
  cases kx with
  | bor i p m => cases hf
  | new m => cases hf
  | fz =>
    cases ky with
    | bor i p m => cases hf
    | new m => cases hf
    | fz =>
      obtain ⟨key, ek, w2⟩ := optK_of w2
      obtain ⟨b, rfl, hb, gk⟩ := keyN_ref (K := K) (G := S2.G) ek (Dt.mono t2.stp.gext h1)
      have t12 := t1.trans t2
      have hpp : (S.at S.G (upd S.H p (NDo p 0 []))).H p = some (NDo p 0 []) := upd_same
      have hnp : ¬ Ow (S.at S.G (upd S.H p (NDo p 0 []))).f p := np
      have k1 : S2.H p = some (NDo p 0 []) := t12.stp.keep p _ hpp hnp
      have k2 : S2.G p = none := by
        rw [t12.stp.gold p (by rw [hpp]; exact fun z => nomatch z) hnp]
        exact gp
      have k3 : ¬ Ow S2.f p := fun z => by
        rcases t12.stp.fnew p z with z | z
        · exact hnp z
        · rw [hpp] at z; cases z
      refine ⟨b, key, k1, rfl, hb.mono ok2.ext, gk, fun ep => ?_⟩
      have ok3 : Sta.ok K (S2.at S2.G (upd S2.H p (NDo p ep [(key, b, v2)]))) := ok2.aside k2 k3
      refine k _ _ (S2.at S2.G (upd S2.H p (NDo p ep [(key, b, v2)]))) w2 e2 ok3 ⟨⟨t12.stp.gext, fun a o ha hn => ?_, fun a ha hn => ?_, fun a ha => ?_, fun a ha => ?_⟩, t12.pin⟩ ?_ _ ⟨[p], .N upd_same (.cons hb h2 .nil), by simp, fun a ha => ?_⟩
      · have c : a ≠ p := fun c => by rw [c, hp] at ha; cases ha
        show upd S2.H p _ a = _
        rw [upd_ne c]
        exact t12.stp.keep a o (by show upd S.H p _ a = _; rw [upd_ne c]; exact ha) hn
      · have c : a ≠ p := fun c => ha (by rw [c]; exact hp)
        exact t12.stp.gold a (by show upd S.H p _ a ≠ _; rw [upd_ne c]; exact ha) hn
      · rcases t12.stp.fnew a ha with z | z
        · exact .inl z
        · refine .inr ?_
          have z : upd S.H p (NDo p 0 []) a = none := z
          by_cases c : a = p
          · rw [c]; exact hp
          · rwa [upd_ne c] at z
      · show upd S2.H p _ a ≠ none
        by_cases c : a = p
        · rw [c, upd_same]; exact fun z => nomatch z
        · rw [upd_ne c]
          exact t12.stp.trk a (by show upd S.H p _ a ≠ _; rw [upd_ne c]; exact ha)
      · intro i hi
        obtain ⟨z1, z2, z3⟩ := (pr1.trans pr2) i hi
        refine ⟨z1, z2, fun a ha o ho => ?_⟩
        have c : a ≠ p := fun c => by rw [c, hp] at ho; cases ho
        show upd S2.H p _ a = _
        rw [upd_ne c]
        exact z3 a ha o (by show upd S.H p _ a = _; rw [upd_ne c]; exact ho)
      · have e : a = p := by simpa using ha
        subst e
        exact ⟨k2, k3, .inr hp⟩
theorem q_dispN {pos : Pos} {ek ev : Expr} {wk wv : DE (Kd × D)} (hu : NRoom X) (hk : PE X ek (te X.K W wk)) (hv : PE X ev (te X.K W wv)) : PE X (.Dict [some ek] [ev] pos) (te X.K W (wDispN wk wv)) := PE.imp (pe_dispN hu hk hv) fun _ _ _ h => te_dispN h
@[simp ↓] theorem oSortedX_eq {xs : List (Kd × D)} {q : Kd × D → Prop} : oSortedX xs q = one1 xs fun x => lstK x fun ds => ((∀ d ∈ ds, pdK 40 d = true) ∧ PySem.W.AllAlike (ds.map pdOf) ∧ PySem.W.Sortable (ds.map pdOf)) ∧ q (.new (.L .F), .lst (ds.mergeSort leD)) := rfl
@[simp ↓] theorem wDispN_eq {wk wv : DE (Kd × D)} {P : Po (Kd × D)} : wDispN wk wv ρ P = wk ρ ⟨fun p1 x ρ1 => wv ρ1 ⟨fun p2 y ρ2 => (hold x.1.frz p2 = true ∧ allFz [(x.1.frz, x.2), (y.1.frz, y.2)] = true) ∧ optK (keyN x.2) fun k => P.ok (p1 ++ p2) (.new .N, .ndc [(k, y.2)]) ρ2, P.ex⟩, P.ex⟩ := rfl
end
end VL

/-! comprehensions over a frozen dict: it is locked while they run -/
namespace VL
open PySem PySem.Spec PyProof.Rows L2
section
variable {K : PySem.W.Frag} {W : WX} {G G' H H' : Hp} {σ : L2.St} {X : Cx} {ρ : Rho} {S S0 T : Sta} {Z : Ends}
/-- the dict at a is locked or unlocked -/
inductive Sw (a : Addr) (u u' : HO) : Prop
  | lk {o : Obj} {kvs : List (Key × V)} : u = .dK kvs → u' = .frz o (.dK kvs) → Sw a u u'
  | un {o : Obj} {kvs : List (Key × V)} : u = .frz o (.dK kvs) → u' = .dK kvs → Sw a u u'
def notDK : HO → Prop
  | .dK _ => False
  | .frz _ (.dK _) => False
  | _ => True
theorem Sw.ne {a : Addr} {u u' : HO} (s : Sw a u u') (h : G a = some u) {b : Addr} {x : HO} (hb : G b = some x) (hx : notDK x) : upd G a u' b = some x := by
  have : b ≠ a := fun z => by
    rw [z, h] at hb
    cases hb
    cases s with
    | lk e _ => subst e; exact hx
    | un e _ => subst e; exact hx
  rw [upd_ne this]; exact hb
theorem Sw.dk {a : Addr} {u u' : HO} (s : Sw a u u') (h : G a = some u) {b : Addr} {ks : List (Key × V)} (hb : Rd G b (.dK ks)) : Rd (upd G a u') b (.dK ks) := by
  by_cases c : b = a
  · subst c
    cases s with
    | @lk o kvs e e' =>
      subst e e'
      rcases hb with hb | ⟨o', hb⟩
      · rw [h] at hb; cases hb
        exact .inr ⟨o, upd_same⟩
      · rw [h] at hb; cases hb
    | @un o kvs e e' =>
      subst e e'
      rcases hb with hb | ⟨o', hb⟩
      · rw [h] at hb; cases hb
      · rw [h] at hb; cases hb
        exact .inl upd_same
  · rcases hb with hb | ⟨o', hb⟩
    · exact .inl (by rw [upd_ne c]; exact hb)
    · exact .inr ⟨o', by rw [upd_ne c]; exact hb⟩
theorem Sw.t {a : Addr} {u u' : HO} (s : Sw a u u') (h : G a = some u) {b : Addr} {xs : List V} (hb : SqT K G b xs) : SqT K (upd G a u') b xs := by
  rcases hb with (hb | ⟨o, hb⟩) | hb
  · exact .inl (.inl (s.ne h hb trivial))
  · exact .inl (.inr ⟨o, s.ne h hb trivial⟩)
  · exact .inr hb
theorem Sw.l {a : Addr} {u u' : HO} (s : Sw a u u') (h : G a = some u) {b : Addr} {xs : List V} (hb : SqL K G b xs) : SqL K (upd G a u') b xs := by
  rcases hb with (hb | ⟨o, hb⟩) | hb
  · exact .inl (.inl (s.ne h hb trivial))
  · exact .inl (.inr ⟨o, s.ne h hb trivial⟩)
  · exact .inr hb
section
variable {a : Addr} {u u' : HO} (s : Sw a u u')
include s
abbrev Sta.sw (S : Sta) (a : Addr) (u' : HO) : Sta := { S with G := upd S.G a u', H := upd S.H a u' }
end
/-! what is walked -/
def wKeysAt (i : Nat) : Option Nat → DE (List D)
  | none => fun ρ P => match ρ[i]? with
    | some (some (.F, .dct ds)) => P.ok [] (ds.map fun kv => kD kv.1) ρ
    | _ => False
  | some j => fun ρ P => match ρ[i]? with
    | some (some (.F, .tup xs)) => match xs[j]? with
      | some (.dct ds) => P.ok [] (ds.map fun kv => kD kv.1) ρ
      | _ => False
    | _ => False
def tdAt (K : PySem.W.Frag) (i : Nat) : Option Nat → TE
  | none => tVar i
  | some j => tOp (fun x y H Q => rIx K x y H Q ∨ rIxDK x y H Q) (tVar i) (tC (.int (j : Int)))
abbrev TInj (K : PySem.W.Frag) (H : Hp) : Prop := ∀ a xs ys, SqT K H a xs → SqT K H a ys → xs = ys
/-- what stands there -/
def DctAt (K : PySem.W.Frag) (σ : L2.St) (G : Hp) (i : Nat) (ds : List (Key × D)) (d : Addr) (kvs : List (Key × V)) : Option Nat → Prop
  | none => σ[i]? = some (some (.ref d)) ∧ Rd G d (.dK kvs) ∧ DtK K G kvs ds
  | some j => ∃ b xs, σ[i]? = some (some (.ref b)) ∧ SqT K G b xs ∧ xs[j]? = some (.ref d) ∧ Rd G d (.dK kvs) ∧ DtK K G kvs ds
theorem DctAt.same {i : Nat} {j : Option Nat} {ds ds' : List (Key × D)} {d d' : Addr} {kvs kvs' : List (Key × V)} (hi : TInj K H) (xt : Ex G H) (xt' : Ex G' H) (h : DctAt K σ G i ds d kvs j) (h' : DctAt K σ G' i ds' d' kvs' j) : d' = d := by
  cases j with
  | none =>
    have e := h.1.symm.trans h'.1
    cases e
    rfl
  | some j =>
    obtain ⟨b, xs, h1, h2, h3, _⟩ := h
    obtain ⟨b', xs', h1', h2', h3', _⟩ := h'
    rw [h1] at h1'
    cases h1'
    have := hi b xs xs' (xt.t h2) (xt'.t h2')
    subst this
    rw [h3] at h3'
    cases h3'
    rfl
theorem Src.keys {d : Addr} {o : Obj} {kvs : List (Key × V)} {ds : List (Key × D)} (h : G d = some (.frz o (.dK kvs))) (t : DtK K G kvs ds) : Src K G (Itk d o kvs) (ds.map fun kv => kD kv.1) := fun G1 H1 e1 e2 i => by
  have h1 := e2 _ _ (e1 _ _ h)
  have hl : (ds.map fun kv => kD kv.1).length = kvs.length := by rw [List.length_map, t.len]
  refine ⟨fun hi => ⟨h1, by rw [← hl]; exact hi⟩, fun hi => ⟨h1, by rw [← hl]; exact hi⟩, fun x H2 d' hy he => ?_⟩
  obtain ⟨rfl, k, v, hk, rfl⟩ := hy
  refine ⟨G1, Grow.refl e2, ?_⟩
  obtain ⟨w, ew, hw⟩ := (t.mono e1).keys.get he
  rw [List.getElem?_map, hk] at ew
  cases ew
  exact hw
def wLcD (i : Nat) (j : Option Nat) (g : DG) (t : DE Bool) (we : DE (Kd × D)) (vs q : List Nat) : DE (Kd × D) := fun ρ P => wLc (wKeysAt i j) g t we vs q ρ ⟨P.ok, fun _ _ _ => False⟩
def tLcK (K : PySem.W.Frag) (i : Nat) (j : Option Nat) (g : TG) (tt : TT) (te : TE) (vs : List Nat) : TE := fun σ H Q => TInj K H → tLc (iKeys (tdAt K i j)) g tt te vs σ H Q ∨ tLockE (tLc (iKeys (tdAt K i j)) g tt te vs) σ H Q
section
variable {elt tg iter : Expr} {ifs : List Expr} {scope : Scope} {own : List (Str × Nat)} {pos : Pos} {i : Nat} {j : Option Nat} {g : DG} {t : DE Bool} {we : DE (Kd × D)}
end
end
/-! by simp -/
section
variable {ρ : Rho} {P : Po (Kd × D)}
def dK1 (d : D) (q : List D → Prop) : Prop := match d with
  | .dct ds => q (ds.map fun kv => kD kv.1)
  | _ => False
def tK1 (d : D) (j : Nat) (q : List D → Prop) : Prop := match d with
  | .tup xs => nthK xs j fun d => dK1 d q
  | _ => False
@[simp ↓] theorem dK1_d {ds : List (Key × D)} {q : List D → Prop} : dK1 (.dct ds) q = q (ds.map fun kv => kD kv.1) := rfl
@[simp ↓] theorem tK1_t {xs : List D} {j : Nat} {q : List D → Prop} : tK1 (.tup xs) j q = nthK xs j fun d => dK1 d q := rfl
/-- the keys of a slot's dict -/
def dctAt (ρ : Rho) (i : Nat) (j : Option Nat) (q : List D → Prop) : Prop := slotK ρ i fun m d => m = .F ∧ match j with
  | none => dK1 d q
  | some j => tK1 d j q
@[simp ↓] theorem dctAt_n {i : Nat} {q : List D → Prop} : dctAt ρ i none q = slotK ρ i fun m d => m = .F ∧ dK1 d q := rfl
@[simp ↓] theorem dctAt_s {i j : Nat} {q : List D → Prop} : dctAt ρ i (some j) q = slotK ρ i fun m d => m = .F ∧ tK1 d j q := rfl
theorem wKeysAt_eq {i : Nat} {j : Option Nat} {PL : Po (List D)} : wKeysAt i j ρ PL = dctAt ρ i j fun ds => PL.ok [] ds ρ := by
  unfold dctAt slotK
  cases j with
  | none =>
    simp only [wKeysAt]
    cases e : ρ[i]? with
    | none => rfl
    | some y =>
      cases y with
      | none => rfl
      | some md =>
        obtain ⟨m, d⟩ := md
        cases m <;> cases d <;> simp [dK1]
  | some j =>
    simp only [wKeysAt]
    cases e : ρ[i]? with
    | none => rfl
    | some y =>
      cases y with
      | none => rfl
      | some md =>
        obtain ⟨m, d⟩ := md
        cases m <;> cases d <;> simp [tK1, nthK_of]
        rename_i xs
        cases xs[j]? with
        | none => rfl
        | some d => cases d <;> rfl
@[simp ↓] theorem wLcD_eq {i : Nat} {j : Option Nat} {g : DG} {t : DE Bool} {we : DE (Kd × D)} {vs q : List Nat} : wLcD i j g t we vs q ρ P = dctAt ρ i j fun ds => lcK ds g t we vs q (wipeR ρ vs) fun acc ρ2 => P.ok (vs ++ q) (.new (.L .F), .lst acc) ρ2 := by
  unfold wLcD
  rw [wLc_eq, wKeysAt_eq]
  rfl
end
end VL

/-! reversed(range(n)) -/
namespace VL
open PySem PySem.Spec PyProof.Rows L2
section
variable {K : PySem.W.Frag} {W : WX} {G G' H H' : Hp} {σ : L2.St} {X : Cx} {ρ : Rho} {S S0 T : Sta} {Z : Ends}
def revR (x : Kd × D) (q : List D → Prop) : Prop := match x.2 with
  | .int j => inR j ∧ q (rangeD 0 j.toNat).reverse
  | _ => False
def wRevRng (we : DE (Kd × D)) : DE (List D) := fun ρ P => we ρ ⟨fun p x ρ' => revR x fun ds => P.ok p ds ρ', P.ex⟩
end
section
variable {ρ : Rho} {PL : Po (List D)}
@[simp ↓] theorem revR_i {k : Kd} {j : Int} {q : List D → Prop} : revR (k, .int j) q = (inR j ∧ q (rangeD 0 j.toNat).reverse) := rfl
@[simp ↓] theorem wRevRng_eq {we : DE (Kd × D)} : wRevRng we ρ PL = we ρ ⟨fun p x ρ' => revR x fun ds => PL.ok p ds ρ', PL.ex⟩ := rfl
end
end VL

/-! a tuple so many times -/
namespace VL
open PySem PySem.Spec PyProof.Rows L2
theorem tuple_mul1 (l : Addr) (items : Array Value) (n : Nat) (dd : Option Addr) (sl : Array (Option Value)) (u : Tok) :
    Meets (Builtin.«tuple.__mul__» ⟨[.ref l, .int 1 u], []⟩) (fun _ R s => s.heap.get? l = some { cls := .type "tuple", dict := dd, data := .seq items n, slots := sl } ∧
      R (.ok (.ret (Value.ref l))) s) :=
  .of_wp fun prog w A R s h => by
    obtain ⟨hp, g, d, tk, os⟩ := s
    obtain ⟨hl, h⟩ := h
    have f1 := AutoSeq1.idx_int
    wp_walk using wpAny_loadPart' hl
    repeat (first
      | (refine wpAny_ite_false (decide_eq_false (by decide)) ?_; wp_walk using wpAny_loadPart' hl)
      | (refine wpAny_ite_true (decide_eq_true (by cases items.isEmpty <;> rfl)) ?_; wp_walk using wpAny_loadPart' hl))
    all_goals first
      | exact ⟨_, rfl, h⟩
      | skip
def rRepT1 (K : PySem.W.Frag) : R2 := fun x y H Q => ∃ l xs, x = .ref l ∧ y = .int 1 ∧ SqT K H l xs ∧ Q x H
section
variable {X : Cx}
theorem op_repT1 : OpR X (binaryOp .Mult) (rRepT1 X.K) := by
  intro pins s σ H x y v u Q I rx ry h
  obtain ⟨l, xs, rfl, rfl, hT, q⟩ := h
  cases rx
  obtain ⟨t, rfl⟩ := ry
  obtain ⟨its, r, ⟨⟨cls, dd, data, sl⟩, ho, hc, n, hd⟩, hs⟩ := I.tuple hT
  simp only at hc hd
  subst hc hd
  refine wpAny_binaryOp_repeat_ref (T := "tuple") (U := "int") (by decide) ⟨_, ho, rfl⟩ (fun s' => typeIs_int s' 1 t) noFill_tuple_mul F.fills_int_mul F.slot_int_rmul repeat_tuple F.slot_int_index.lookup
    (call_meets F.slot_int_rmul (typeIs_int s 1 t) F.entry_int_rmul (F.args_int_rmul_2 _ _) (int_rmul_tuple 1 t l its.toArray n dd sl)
      ⟨ho, rfl, ⟨_, ho, rfl⟩, call_meets F.slot_tuple_mul ⟨_, ho, rfl⟩ F.entry_tuple_mul (F.args_tuple_mul_2 _ _) (tuple_mul1 l its.toArray n dd sl t) ⟨ho, ?_⟩⟩)
  exact ⟨.ref l, H, I, rfl, q⟩
end
section
variable {K : PySem.W.Frag} {W : WX} {G G' H H' : Hp} {σ : L2.St} {X : Cx} {ρ : Rho} {S S0 T : Sta} {Z : Ends}
def oMulX : O2 := fun x y q => match x, y.2 with
  | (.fz, .tup ds), .int n => (ds ≠ [] ∧ 1 ≤ n ∧ n ≤ 1000 ∧ ds.length ≤ 1000) ∧ q (.fz, .tup (List.replicate n.toNat ds).flatten)
  | x, _ => oMul x y q
theorem op_mulX : OpR X (binaryOp .Mult) (fun x y H Q => (rI CMul (fun i j => .int (i * j)) x y H Q ∨ rRep x y H Q) ∨ (rRepT1 X.K x y H Q ∨ rRepT X.K x y H Q)) := op_mulU.or (op_repT1.or op_repT)
theorem ok_MulX : OkR2 K (fun x y H Q => (rI CMul (fun i j => .int (i * j)) x y H Q ∨ rRep x y H Q) ∨ (rRepT1 K x y H Q ∨ rRepT K x y H Q)) oMulX := fun S0 S x y dx dy Q q ok hx hy h k => by
  unfold oMulX at h
  split at h
  · rename_i ds n e2
    obtain ⟨kd, d⟩ := dy
    have e2 : d = .int n := e2
    subst e2
    obtain rfl := hy.int_inv ok
    obtain ⟨⟨h1, h2, h3, h4⟩, h⟩ := h
    cases hx with
    | tup hT ha =>
      rename_i a xs
      have hl := ha.len
      by_cases c : n = 1
      · subst c
        refine .inr (.inl ⟨a, xs, rfl, rfl, ok.ext.t hT, stay ok k h (v := .ref a) ?_⟩)
        have : (List.replicate (1 : Int).toNat ds).flatten = ds := by simp
        rw [this]
        exact .tup hT ha
      · refine .inr (.inr ⟨a, n, xs, rfl, rfl, ok.ext.t hT, fun e => h1 ?_, by omega, h3, by omega, fun p hp => new_tup ok k h (ha.rep _) hp⟩)
        rw [e] at hl
        exact List.eq_nil_of_length_eq_zero hl.symm
  · exact .inl (ok_Mul S0 S x y _ dy Q q ok hx hy h k)
end
@[simp ↓] theorem oMulX_t {ds : List D} {k : Kd} {n : Int} {q : Kd × D → Prop} : oMulX (.fz, .tup ds) (k, .int n) q = ((ds ≠ [] ∧ 1 ≤ n ∧ n ≤ 1000 ∧ ds.length ≤ 1000) ∧ q (.fz, .tup (List.replicate n.toNat ds).flatten)) := rfl
end VL

namespace My
open PySem PySem.Spec PyProof.Rows L2 VL
/-! ### walls as plain things -/
abbrev Gram := List Int
structure Ctx where
  l : Gram
  q : Int
  s : Int
  r : Gram
deriving DecidableEq
def gramD (g : Gram) : D := .tup (g.map .int)
def ctxD (c : Ctx) : D := .tup [gramD c.l, .int c.q, .int c.s, gramD c.r]
def nkG (g : Gram) : NestedKey := .tup (g.map .num)
def nkX (c : Ctx) : NestedKey := .tup [nkG c.l, .num c.q, .num c.s, nkG c.r]
theorem nums_inj : ∀ {a b : List Int}, a.map NestedKey.num = b.map NestedKey.num → a = b
  | [], [], _ => rfl
  | [], _ :: _, h => by simp at h
  | _ :: _, [], h => by simp at h
  | x :: a, y :: b, h => by
    simp only [List.map_cons, List.cons.injEq, NestedKey.num.injEq] at h
    rw [h.1, nums_inj h.2]
theorem nkG_inj {a b : Gram} (h : nkG a = nkG b) : a = b := nums_inj (by simpa [nkG] using h)
theorem nkX_inj {a b : Ctx} (h : nkX a = nkX b) : a = b := by
  obtain ⟨a1, a2, a3, a4⟩ := a
  obtain ⟨b1, b2, b3, b4⟩ := b
  simp only [nkX, NestedKey.tup.injEq, List.cons.injEq, NestedKey.num.injEq, and_true] at h
  obtain ⟨h1, rfl, rfl, h4⟩ := h
  rw [nkG_inj h1, nkG_inj h4]
theorem nkOfs_nums : ∀ g : Gram, nkOfs (g.map .int) = some (g.map .num)
  | [] => rfl
  | x :: g => by
    simp only [List.map_cons, nkOfs, nkOf, nkOfs_nums g]
theorem nkOks_nums : ∀ g : Gram, nkOks (g.map .num) = true
  | [] => rfl
  | x :: g => by simp only [List.map_cons, nkOks, nkOk, nkOks_nums g, Bool.and_self]
theorem depth_nums : ∀ g : Gram, NestedKey.depthAll (g.map .num) = 0
  | [] => by simp [NestedKey.depthAll]
  | x :: g => by simp [NestedKey.depthAll, NestedKey.depth, depth_nums g]
theorem nkOf_gram (g : Gram) : nkOf (gramD g) = some (nkG g) := by
  unfold gramD nkG
  simp only [nkOf, nkOfs_nums]
theorem nkOk_G (g : Gram) : nkOk (nkG g) = true := by
  unfold nkG
  simp only [nkOk, nkOks_nums]
theorem depth_G (g : Gram) : (nkG g).depth ≤ 1 := by
  unfold nkG
  simp only [NestedKey.depth, depth_nums]
  omega
@[simp] theorem keyN_gram {g : Gram} : keyN (gramD g) = some (nkG g) := by
  unfold keyN
  rw [nkOf_gram]
  have h := depth_G g
  have : nkGood (nkG g) = true := by
    unfold nkGood
    simp only [nkOk_G, Bool.true_and, Bool.and_eq_true, Nat.ble_eq]
    exact ⟨rfl, by omega⟩
  simp [this]
@[simp] theorem keyN_ctx {c : Ctx} : keyN (ctxD c) = some (nkX c) := by
  unfold keyN
  have e : nkOf (ctxD c) = some (nkX c) := by
    unfold ctxD nkX
    simp only [nkOf, nkOfs, nkOf_gram]
  rw [e]
  have h := depth_G c.l
  have h' := depth_G c.r
  have : nkGood (nkX c) = true := by
    unfold nkGood nkX
    simp only [nkOk, nkOks, nkOk_G, Bool.true_and, Bool.and_eq_true, Nat.ble_eq, NestedKey.depth, NestedKey.depthAll]
    exact ⟨rfl, by omega⟩
  simp [this]
@[simp] theorem nkD_G {g : Gram} : nkD (nkG g) = gramD g := (keyN_of keyN_gram).1
@[simp] theorem nkD_X {c : Ctx} : nkD (nkX c) = ctxD c := (keyN_of keyN_ctx).1
/-! sets -/
def setN (ks : List NestedKey) : D := .ndc (ks.map fun k => (k, .bl true))
def putS {α : Type} [DecidableEq α] (xs : List α) (x : α) : List α := if x ∈ xs then xs else xs ++ [x]
theorem valN_set {k : NestedKey} : ∀ ks : List NestedKey, valN (ks.map fun k => (k, D.bl true)) k = if k ∈ ks then some (.bl true) else none
  | [] => rfl
  | x :: ks => by
    have ih := valN_set (k := k) ks
    unfold valN at ih ⊢
    simp only [List.map_cons, List.find?_cons]
    by_cases c : x = k
    · simp [c]
    · simp only [c, decide_false]
      rw [ih]
      have c' : ¬ k = x := fun e => c e.symm
      simp [c']
theorem isS_set {k : NestedKey} {ks : List NestedKey} : (valN (ks.map fun k => (k, D.bl true)) k).isSome = decide (k ∈ ks) := by
  rw [valN_set]
  by_cases c : k ∈ ks <;> simp [c]
theorem putND_set {k : NestedKey} {ks : List NestedKey} : putND (ks.map fun k => (k, D.bl true)) k (.bl true) = (putS ks k).map fun k => (k, D.bl true) := by
  unfold putND putS
  rw [isS_set]
  by_cases c : k ∈ ks
  · simp only [c, decide_true, if_true, List.map_map]
    apply List.map_congr_left
    intro x _
    simp only [Function.comp]
    split <;> rfl
  · simp [c]
section
variable {α β : Type} [DecidableEq α] [DecidableEq β]
theorem mem_putS {xs : List α} {x y : α} : y ∈ putS xs x ↔ y ∈ xs ∨ y = x := by
  unfold putS
  split
  · rename_i h
    exact ⟨.inl, fun a => a.elim id fun e => e ▸ h⟩
  · simp
theorem putS_map {f : α → β} (inj : ∀ {a b}, f a = f b → a = b) {xs : List α} {x : α} : putS (xs.map f) (f x) = (putS xs x).map f := by
  unfold putS
  have : f x ∈ xs.map f ↔ x ∈ xs := by
    rw [List.mem_map]
    exact ⟨fun ⟨y, hy, e⟩ => inj e ▸ hy, fun h => ⟨x, h, rfl⟩⟩
  by_cases c : x ∈ xs
  · rw [if_pos (this.mpr c), if_pos c]
  · rw [if_neg (fun h => c (this.mp h)), if_neg c]; simp
theorem putS_nodup {xs : List α} {x : α} (h : xs.Nodup) : (putS xs x).Nodup := by
  unfold putS
  split
  · exact h
  · rename_i c
    rw [List.nodup_append]
    exact ⟨h, by simp, fun a ha b hb e => c (by simp at hb; rw [← hb, ← e]; exact ha)⟩
theorem putS_len {xs : List α} {x : α} : xs.length ≤ (putS xs x).length ∧ (putS xs x).length ≤ xs.length + 1 := by
  unfold putS
  split <;> simp
theorem putS_eq {xs : List α} {x : α} (h : (putS xs x).length = xs.length) : putS xs x = xs ∧ x ∈ xs := by
  unfold putS at h ⊢
  split
  · rename_i c; exact ⟨rfl, c⟩
  · rename_i c
    rw [if_neg c] at h
    simp at h
def putsS (ys xs : List α) : List α := ys.foldl putS xs
theorem mem_putsS {y : α} : ∀ {ys xs : List α}, y ∈ putsS ys xs ↔ y ∈ xs ∨ y ∈ ys
  | [], xs => by simp [putsS]
  | z :: ys, xs => by
    show y ∈ putsS ys (putS xs z) ↔ _
    rw [mem_putsS, mem_putS, List.mem_cons, or_assoc]
theorem putsS_nodup : ∀ {ys xs : List α}, xs.Nodup → (putsS ys xs).Nodup
  | [], xs, h => h
  | z :: ys, xs, h => putsS_nodup (ys := ys) (putS_nodup h)
theorem putsS_len : ∀ {ys xs : List α}, xs.length ≤ (putsS ys xs).length ∧ (putsS ys xs).length ≤ xs.length + ys.length
  | [], xs => by simp [putsS]
  | z :: ys, xs => by
    have h := putsS_len (ys := ys) (xs := putS xs z)
    have h' := putS_len (xs := xs) (x := z)
    show xs.length ≤ (putsS ys (putS xs z)).length ∧ (putsS ys (putS xs z)).length ≤ _
    simp only [List.length_cons]
    omega
theorem putsS_eq : ∀ {ys xs : List α}, (putsS ys xs).length = xs.length → putsS ys xs = xs ∧ ∀ y ∈ ys, y ∈ xs
  | [], xs, _ => ⟨rfl, by simp⟩
  | z :: ys, xs, h => by
    have h1 := putsS_len (ys := ys) (xs := putS xs z)
    have h2 := putS_len (xs := xs) (x := z)
    have h : (putsS ys (putS xs z)).length = xs.length := h
    obtain ⟨e1, m1⟩ := putS_eq (xs := xs) (x := z) (by omega)
    rw [e1] at h
    obtain ⟨e2, m2⟩ := putsS_eq (ys := ys) (xs := xs) h
    refine ⟨?_, ?_⟩
    · show putsS ys (putS xs z) = xs
      rw [e1, e2]
    · intro y hy
      rcases List.mem_cons.mp hy with rfl | hy
      · exact m1
      · exact m2 y hy
theorem nodup_len : ∀ {xs ys : List α}, xs.Nodup → (∀ x ∈ xs, x ∈ ys) → xs.length ≤ ys.length
  | [], ys, _, _ => by simp
  | x :: xs, ys, hn, hs => by
    rw [List.nodup_cons] at hn
    have hx := hs x List.mem_cons_self
    have ih := nodup_len (xs := xs) (ys := ys.erase x) hn.2 (fun y hy => by
      have hy' := hs y (List.mem_cons_of_mem _ hy)
      have : y ≠ x := fun e => hn.1 (e ▸ hy)
      exact (List.mem_erase_of_ne this).mpr hy')
    have := List.length_erase_of_mem hx
    have hp : 0 < ys.length := List.length_pos_of_mem hx
    simp only [List.length_cons]
    omega
end
/-! what grows -/
def gOk (w sg : Nat) (g : Gram) : Prop := g.length = w ∧ ∀ x ∈ g, 0 ≤ x ∧ x < (sg : Int)
structure cOk (w st sg : Nat) (c : Ctx) : Prop where
  l : gOk w sg c.l
  r : gOk w sg c.r
  q : 0 ≤ c.q ∧ c.q < (st : Int)
  s : 0 ≤ c.s ∧ c.s < (sg : Int)
def behindW (t : Tab) (c : Ctx) (L R : List Gram) : List Ctx := match entAt t c.q c.s with
  | none => []
  | some (w, true, s) => (R.filter fun g => decide (g.dropLast = c.r.tail)).map fun g => ⟨w :: c.l.dropLast, s, c.r.headD 0, g⟩
  | some (w, false, s) => (L.filter fun g => decide (g.dropLast = c.l.tail)).map fun g => ⟨g, s, c.l.headD 0, w :: c.r.dropLast⟩
structure Wl where
  L : List Gram
  R : List Gram
  C : List Ctx
def sizeW (s : Wl) : Nat := s.L.length + s.R.length + s.C.length
def putW (d : Bool) (c : Ctx) (s : Wl) : Wl := if d then { s with L := putS s.L c.l } else { s with R := putS s.R c.r }
def stepW (t : Tab) (c : Ctx) (s : Wl) : Option Wl := match entAt t c.q c.s with
  | none => none
  | some (_, d, _) => some { putW d c s with C := putsS (behindW t c (putW d c s).L (putW d c s).R) s.C }
def passW (t : Tab) : List Ctx → Wl → Option Wl
  | [], s => some s
  | c :: cs, s => match stepW t c s with
    | none => none
    | some s' => passW t cs s'
def loopW (t : Tab) (most : Int) : Nat → Wl → Option Wl
  | 0, _ => none
  | n + 1, s => if most < s.C.length then none else match passW t s.C s with
    | none => none
    | some s' => if sizeW s' = sizeW s then some s' else loopW t most n s'
def blankG (w : Nat) : Gram := List.replicate w 0
def wl0 (w : Nat) : Wl := ⟨[blankG w], [blankG w], [⟨blankG w, 0, 0, blankG w⟩]⟩
def wallR (t : Tab) (w : Nat) (most : Int) : Option Wl := loopW t most (3 * most.toNat + 10) (wl0 w)
structure wOk (w st sg : Nat) (s : Wl) : Prop where
  l : ∀ g ∈ s.L, gOk w sg g
  r : ∀ g ∈ s.R, gOk w sg g
  c : ∀ c ∈ s.C, cOk w st sg c
  nl : s.L.Nodup
  nr : s.R.Nodup
  nc : s.C.Nodup
structure subW (s s' : Wl) : Prop where
  l : ∀ g ∈ s.L, g ∈ s'.L
  r : ∀ g ∈ s.R, g ∈ s'.R
  c : ∀ g ∈ s.C, g ∈ s'.C
theorem subW.refl (s : Wl) : subW s s := ⟨fun _ h => h, fun _ h => h, fun _ h => h⟩
theorem subW.trans {a b c : Wl} (h : subW a b) (g : subW b c) : subW a c := ⟨fun x hx => g.l x (h.l x hx), fun x hx => g.r x (h.r x hx), fun x hx => g.c x (h.c x hx)⟩
theorem entW_ok {t : Tab} {st sg : Nat} (ht : TabOk t st sg) {q s : Int} (hq : 0 ≤ q ∧ q < st) (hs : 0 ≤ s ∧ s < sg) : EntOk st sg (entAt t q s) := by
  unfold entAt rowAt
  have hl := ht.len
  have h1 : q.toNat < t.length := by omega
  have e1 : t.getD q.toNat [] = t[q.toNat] := by simp [List.getD, h1]
  obtain ⟨h2, h3⟩ := ht.row _ (List.getElem_mem h1)
  rw [e1]
  have h4 : s.toNat < t[q.toNat].length := by omega
  have e2 : t[q.toNat].getD s.toNat none = t[q.toNat][s.toNat] := by simp [List.getD, h4]
  rw [e2]
  exact h3 _ (List.getElem_mem h4)
theorem gOk.cons {w sg : Nat} {g : Gram} {x : Int} (h : gOk w sg g) (hw : 0 < w) (hx : 0 ≤ x ∧ x < (sg : Int)) : gOk w sg (x :: g.dropLast) := by
  refine ⟨by simp [h.1]; omega, fun y hy => ?_⟩
  rcases List.mem_cons.mp hy with rfl | hy
  · exact hx
  · exact h.2 y (List.dropLast_subset _ hy)
theorem gOk.hd {w sg : Nat} {g : Gram} (h : gOk w sg g) (hw : 0 < w) : 0 ≤ g.headD 0 ∧ g.headD 0 < (sg : Int) := by
  cases g with
  | nil => have := h.1; simp at this; omega
  | cons x g => exact h.2 x List.mem_cons_self
theorem mem_behind {t : Tab} {c n : Ctx} {L R : List Gram} : n ∈ behindW t c L R ↔ (∃ w s g, entAt t c.q c.s = some (w, true, s) ∧ g ∈ R ∧ g.dropLast = c.r.tail ∧ n = ⟨w :: c.l.dropLast, s, c.r.headD 0, g⟩) ∨ (∃ w s g, entAt t c.q c.s = some (w, false, s) ∧ g ∈ L ∧ g.dropLast = c.l.tail ∧ n = ⟨g, s, c.l.headD 0, w :: c.r.dropLast⟩) := by
  unfold behindW
  split
  · rename_i e
    simp [e]
  · rename_i w s e
    rw [List.mem_map]
    constructor
    · rintro ⟨g, hg, rfl⟩
      rw [List.mem_filter] at hg
      exact .inl ⟨w, s, g, e, hg.1, by simpa using hg.2, rfl⟩
    · rintro (⟨w', s', g, e', hg, h, rfl⟩ | ⟨w', s', g, e', hg, h, rfl⟩)
      · rw [e] at e'; cases e'
        exact ⟨g, List.mem_filter.mpr ⟨hg, by simpa using h⟩, rfl⟩
      · rw [e] at e'; cases e'
  · rename_i w s e
    rw [List.mem_map]
    constructor
    · rintro ⟨g, hg, rfl⟩
      rw [List.mem_filter] at hg
      exact .inr ⟨w, s, g, e, hg.1, by simpa using hg.2, rfl⟩
    · rintro (⟨w', s', g, e', hg, h, rfl⟩ | ⟨w', s', g, e', hg, h, rfl⟩)
      · rw [e] at e'; cases e'
      · rw [e] at e'; cases e'
        exact ⟨g, List.mem_filter.mpr ⟨hg, by simpa using h⟩, rfl⟩
theorem behind_ok {t : Tab} {w st sg : Nat} (ht : TabOk t st sg) (hw : 0 < w) {c : Ctx} (hc : cOk w st sg c) {L R : List Gram} (hL : ∀ g ∈ L, gOk w sg g) (hR : ∀ g ∈ R, gOk w sg g) : ∀ n ∈ behindW t c L R, cOk w st sg n := by
  intro n hn
  have he := entW_ok ht hc.q hc.s
  rcases mem_behind.mp hn with ⟨w', s, g, e, hg, _, rfl⟩ | ⟨w', s, g, e, hg, _, rfl⟩
  · rw [e] at he
    exact ⟨hc.l.cons hw he.1, hR g hg, he.2, hc.r.hd hw⟩
  · rw [e] at he
    exact ⟨hL g hg, hc.r.cons hw he.1, he.2, hc.l.hd hw⟩
theorem behind_len {t : Tab} {c : Ctx} {L R : List Gram} : (behindW t c L R).length ≤ L.length + R.length := by
  unfold behindW
  split
  · simp
  · rename_i w s _
    rw [List.length_map]
    have := List.length_filter_le (fun g : Gram => decide (g.dropLast = c.r.tail)) R
    omega
  · rename_i w s _
    rw [List.length_map]
    have := List.length_filter_le (fun g : Gram => decide (g.dropLast = c.l.tail)) L
    omega
theorem putW_sub {d : Bool} {c : Ctx} {s : Wl} : subW s (putW d c s) := by
  unfold putW
  split
  · exact ⟨fun g h => mem_putS.mpr (.inl h), fun _ h => h, fun _ h => h⟩
  · exact ⟨fun _ h => h, fun g h => mem_putS.mpr (.inl h), fun _ h => h⟩
theorem putW_C {d : Bool} {c : Ctx} {s : Wl} : (putW d c s).C = s.C := by unfold putW; split <;> rfl
theorem putW_len {d : Bool} {c : Ctx} {s : Wl} : s.L.length ≤ (putW d c s).L.length ∧ (putW d c s).L.length ≤ s.L.length + 1 ∧ s.R.length ≤ (putW d c s).R.length ∧ (putW d c s).R.length ≤ s.R.length + 1 := by
  have h1 := putS_len (xs := s.L) (x := c.l)
  have h2 := putS_len (xs := s.R) (x := c.r)
  unfold putW
  split <;> simp <;> omega
theorem putW_ok {w st sg : Nat} {d : Bool} {c : Ctx} {s : Wl} (h : wOk w st sg s) (hc : cOk w st sg c) : wOk w st sg (putW d c s) := by
  unfold putW
  split
  · exact ⟨fun g hg => (mem_putS.mp hg).elim (h.l g) fun e => e ▸ hc.l, h.r, h.c, putS_nodup h.nl, h.nr, h.nc⟩
  · exact ⟨h.l, fun g hg => (mem_putS.mp hg).elim (h.r g) fun e => e ▸ hc.r, h.c, h.nl, putS_nodup h.nr, h.nc⟩
theorem stepW_ok {t : Tab} {w st sg : Nat} (ht : TabOk t st sg) (hw : 0 < w) {c : Ctx} (hc : cOk w st sg c) {s s' : Wl} (h : wOk w st sg s) (e : stepW t c s = some s') : wOk w st sg s' ∧ subW s s' := by
  unfold stepW at e
  split at e
  · cases e
  · rename_i w' d q e1
    cases e
    have h1 := putW_ok (d := d) h hc
    have h2 := putW_sub (d := d) (c := c) (s := s)
    refine ⟨⟨h1.l, h1.r, fun n hn => (mem_putsS.mp hn).elim (h.c n) (behind_ok ht hw hc h1.l h1.r n), h1.nl, h1.nr, putsS_nodup h.nc⟩, h2.l, h2.r, fun n hn => mem_putsS.mpr (.inl hn)⟩
theorem stepW_len {t : Tab} {c : Ctx} {s s' : Wl} (e : stepW t c s = some s') : s'.L.length ≤ s.L.length + 1 ∧ s'.R.length ≤ s.R.length + 1 ∧ s'.C.length ≤ s.C.length + (s.L.length + s.R.length + 2) ∧ s.L.length ≤ s'.L.length ∧ s.R.length ≤ s'.R.length ∧ s.C.length ≤ s'.C.length := by
  unfold stepW at e
  split at e
  · cases e
  · rename_i w' d q e1
    cases e
    have h1 := putW_len (d := d) (c := c) (s := s)
    have h2 := putsS_len (ys := behindW t c (putW d c s).L (putW d c s).R) (xs := s.C)
    have h3 := behind_len (t := t) (c := c) (L := (putW d c s).L) (R := (putW d c s).R)
    simp only
    omega
/-- whether all that a context asks for is there -/
def closed1 (t : Tab) (L R : List Gram) (C : List Ctx) (c : Ctx) : Bool := match entAt t c.q c.s with
  | none => false
  | some (_, d, _) => (if d then decide (c.l ∈ L) else decide (c.r ∈ R)) && (behindW t c L R).all fun n => decide (n ∈ C)
def closedB (t : Tab) (L R : List Gram) (C : List Ctx) : Bool := C.all (closed1 t L R C)
theorem stepW_eq {t : Tab} {c : Ctx} {s s' : Wl} (e : stepW t c s = some s') (hs : sizeW s' = sizeW s) : s' = s ∧ closed1 t s.L s.R s.C c = true := by
  have hl := stepW_len e
  unfold sizeW at hs
  unfold stepW at e
  unfold closed1
  split at e
  · cases e
  · rename_i w' d q e1
    cases e
    obtain ⟨L, R, C⟩ := s
    cases d with
    | true =>
      simp only [putW, if_true] at hl hs ⊢
      obtain ⟨a1, a2⟩ := putS_eq (xs := L) (x := c.l) (by omega)
      rw [a1] at hl hs ⊢
      obtain ⟨b1, b2⟩ := putsS_eq (ys := behindW t c L R) (xs := C) (by omega)
      rw [b1]
      refine ⟨rfl, ?_⟩
      simp only [a2, decide_true, Bool.true_and, List.all_eq_true]
      exact fun n hn => decide_eq_true (b2 n hn)
    | false =>
      simp only [putW, Bool.false_eq_true, if_false] at hl hs ⊢
      obtain ⟨a1, a2⟩ := putS_eq (xs := R) (x := c.r) (by omega)
      rw [a1] at hl hs ⊢
      obtain ⟨b1, b2⟩ := putsS_eq (ys := behindW t c L R) (xs := C) (by omega)
      rw [b1]
      refine ⟨rfl, ?_⟩
      simp only [a2, decide_true, Bool.true_and, List.all_eq_true]
      exact fun n hn => decide_eq_true (b2 n hn)
theorem passW_ok {t : Tab} {w st sg : Nat} (ht : TabOk t st sg) (hw : 0 < w) : ∀ {cs : List Ctx} {s s' : Wl}, (∀ c ∈ cs, cOk w st sg c) → wOk w st sg s → passW t cs s = some s' → wOk w st sg s' ∧ subW s s'
  | [], s, s', _, h, e => by cases e; exact ⟨h, subW.refl _⟩
  | c :: cs, s, s', hc, h, e => by
    rw [passW] at e
    cases e1 : stepW t c s with
    | none => rw [e1] at e; cases e
    | some s1 =>
      rw [e1] at e
      obtain ⟨h1, b1⟩ := stepW_ok ht hw (hc c List.mem_cons_self) h e1
      obtain ⟨h2, b2⟩ := passW_ok ht hw (fun c' h' => hc c' (List.mem_cons_of_mem _ h')) h1 e
      exact ⟨h2, b1.trans b2⟩
theorem passW_len {t : Tab} : ∀ {cs : List Ctx} {s s' : Wl}, passW t cs s = some s' → s.L.length ≤ s'.L.length ∧ s.R.length ≤ s'.R.length ∧ s.C.length ≤ s'.C.length
  | [], s, s', e => by cases e; omega
  | c :: cs, s, s', e => by
    rw [passW] at e
    cases e1 : stepW t c s with
    | none => rw [e1] at e; cases e
    | some s1 =>
      rw [e1] at e
      have h1 := stepW_len e1
      have h2 := passW_len e
      omega
theorem passW_eq {t : Tab} : ∀ {cs : List Ctx} {s s' : Wl}, passW t cs s = some s' → sizeW s' = sizeW s → s' = s ∧ ∀ c ∈ cs, closed1 t s.L s.R s.C c = true
  | [], s, s', e, _ => by cases e; exact ⟨rfl, by simp⟩
  | c :: cs, s, s', e, hs => by
    rw [passW] at e
    cases e1 : stepW t c s with
    | none => rw [e1] at e; cases e
    | some s1 =>
      rw [e1] at e
      have h1 := stepW_len e1
      have h2 := passW_len e
      have hs1 : sizeW s1 = sizeW s := by unfold sizeW at hs ⊢; omega
      obtain ⟨a1, a2⟩ := stepW_eq e1 hs1
      subst a1
      obtain ⟨b1, b2⟩ := passW_eq e hs
      refine ⟨b1, fun c' h' => ?_⟩
      rcases List.mem_cons.mp h' with rfl | h'
      · exact a2
      · exact b2 c' h'
/-- the grams come of contexts -/
structure ofC (s : Wl) : Prop where
  l : ∀ g ∈ s.L, ∃ c ∈ s.C, c.l = g
  r : ∀ g ∈ s.R, ∃ c ∈ s.C, c.r = g
theorem ofC.len {w st sg : Nat} {s : Wl} (h : ofC s) (hs : wOk w st sg s) : s.L.length ≤ s.C.length ∧ s.R.length ≤ s.C.length := by
  constructor
  · have := nodup_len (ys := s.C.map (·.l)) hs.nl (fun g hg => by
      obtain ⟨c, hc, e⟩ := h.l g hg
      exact List.mem_map.mpr ⟨c, hc, e⟩)
    simpa using this
  · have := nodup_len (ys := s.C.map (·.r)) hs.nr (fun g hg => by
      obtain ⟨c, hc, e⟩ := h.r g hg
      exact List.mem_map.mpr ⟨c, hc, e⟩)
    simpa using this
theorem passW_ofC {t : Tab} : ∀ {cs : List Ctx} {s s' : Wl}, (∀ c ∈ cs, c ∈ s.C) → ofC s → passW t cs s = some s' → ofC s'
  | [], s, s', _, h, e => by cases e; exact h
  | c :: cs, s, s', hc, h, e => by
    rw [passW] at e
    cases e1 : stepW t c s with
    | none => rw [e1] at e; cases e
    | some s1 =>
      rw [e1] at e
      have hcc := hc c List.mem_cons_self
      unfold stepW at e1
      split at e1
      · cases e1
      · rename_i w' d q e2
        cases e1
        refine passW_ofC (cs := cs) ?_ ?_ e
        · exact fun c' h' => mem_putsS.mpr (.inl (hc c' (List.mem_cons_of_mem _ h')))
        · cases d with
          | true =>
            simp only [putW, if_true]
            refine ⟨fun g hg => ?_, fun g hg => ?_⟩
            · rcases mem_putS.mp hg with hg | rfl
              · obtain ⟨c', h1, h2⟩ := h.l g hg
                exact ⟨c', mem_putsS.mpr (.inl h1), h2⟩
              · exact ⟨c, mem_putsS.mpr (.inl hcc), rfl⟩
            · obtain ⟨c', h1, h2⟩ := h.r g hg
              exact ⟨c', mem_putsS.mpr (.inl h1), h2⟩
          | false =>
            simp only [putW, Bool.false_eq_true, if_false]
            refine ⟨fun g hg => ?_, fun g hg => ?_⟩
            · obtain ⟨c', h1, h2⟩ := h.l g hg
              exact ⟨c', mem_putsS.mpr (.inl h1), h2⟩
            · rcases mem_putS.mp hg with hg | rfl
              · obtain ⟨c', h1, h2⟩ := h.r g hg
                exact ⟨c', mem_putsS.mpr (.inl h1), h2⟩
              · exact ⟨c, mem_putsS.mpr (.inl hcc), rfl⟩
structure wallOk (t : Tab) (w st sg : Nat) (most : Int) (s : Wl) : Prop where
  ok : wOk w st sg s
  n : (s.C.length : Int) ≤ most
  o : ofC s
  closed : closedB t s.L s.R s.C = true
  first : subW (wl0 w) s
theorem loopW_ok {t : Tab} {w st sg : Nat} (ht : TabOk t st sg) (hw : 0 < w) {most : Int} : ∀ {n : Nat} {s s' : Wl}, wOk w st sg s → ofC s → subW (wl0 w) s → loopW t most n s = some s' → wallOk t w st sg most s'
  | 0, s, s', _, _, _, e => by cases e
  | n + 1, s, s', h, ho, hf, e => by
    rw [loopW] at e
    split at e
    · cases e
    · rename_i hm
      cases e1 : passW t s.C s with
      | none => rw [e1] at e; cases e
      | some s1 =>
        rw [e1] at e
        simp only at e
        split at e
        · rename_i hs
          cases e
          obtain ⟨a1, a2⟩ := passW_eq e1 hs
          subst a1
          exact ⟨h, by omega, ho, by unfold closedB; rw [List.all_eq_true]; exact a2, hf⟩
        · obtain ⟨b1, b2⟩ := passW_ok ht hw h.c h e1
          exact loopW_ok ht hw b1 (passW_ofC (fun _ h => h) ho e1) (hf.trans b2) e
theorem wl0_ok {t : Tab} {w st sg : Nat} (ht : TabOk t st sg) : wOk w st sg (wl0 w) := by
  have h1 := ht.st0
  have h2 := ht.sg0
  have g : gOk w sg (blankG w) := ⟨by simp [blankG], fun x hx => by
    have := List.eq_of_mem_replicate hx
    subst this
    omega⟩
  exact ⟨by simpa [wl0] using g, by simpa [wl0] using g, fun c hc => by
    have : c = ⟨blankG w, 0, 0, blankG w⟩ := by simpa [wl0] using hc
    subst this
    exact ⟨g, g, by show (0:Int) ≤ 0 ∧ (0:Int) < st; omega, by show (0:Int) ≤ 0 ∧ (0:Int) < sg; omega⟩, by simp [wl0], by simp [wl0], by simp [wl0]⟩
theorem wl0_ofC {w : Nat} : ofC (wl0 w) := by
  constructor
  · intro g hg
    have : g = blankG w := by simpa [wl0] using hg
    exact ⟨_, List.mem_cons_self, this.symm⟩
  · intro g hg
    have : g = blankG w := by simpa [wl0] using hg
    exact ⟨_, List.mem_cons_self, this.symm⟩
theorem wallR_ok {t : Tab} {w st sg : Nat} (ht : TabOk t st sg) (hw : 0 < w) {most : Int} {s : Wl} (e : wallR t w most = some s) : wallOk t w st sg most s := loopW_ok ht hw (wl0_ok ht) wl0_ofC (subW.refl _) e
end My

namespace My
open PySem PySem.Spec PyProof.Rows L2 VL
/-! ### what the walls' functions promise -/
/-- plain, nowhere long -/
def ppK : Nat → D → Bool
  | _, .non => true
  | _, .bl _ => true
  | _, .int _ => true
  | _, .str x => PyData.strOk x
  | n + 1, .lst xs => decide (xs.length ≤ 30000) && xs.all (ppK n)
  | n + 1, .tup xs => decide (xs.length ≤ 30000) && xs.all (ppK n)
  | _, _ => false
def gramB (w sg : Int) : D → Bool
  | .tup xs => decide ((xs.length : Int) = w) && xs.all (numB sg)
  | _ => false
def ctxB (st sg w : Int) : D → Bool
  | .tup [l, q, s, r] => (numB st q && numB sg s) && (gramB w sg l && gramB w sg r)
  | _ => false
def rowO : D → Option (List D)
  | .lst xs => some xs
  | .tup xs => some xs
  | _ => none
def isRow (d : D) : Bool := (rowO d).isSome
def rowsOf (d : D) : List D := (rowO d).getD []
def isWord (k : Str) (d : D) : Bool := eqX d (.str k)
def wallB (st sg : Int) : D → Bool
  | .tup [k, .int w, l, r, c] => isWord "wall" k && decide (1 ≤ w) && (isRow l && isRow r && isRow c) && ((rowsOf l ++ rowsOf r).all (gramB w sg) && (rowsOf c).all (ctxB st sg w))
  | _ => false
def intOf : D → Int
  | .int i => i
  | _ => 0
def gramOf : D → Gram
  | .tup xs => xs.map intOf
  | _ => []
def ctxOf : D → Ctx
  | .tup [l, q, s, r] => ⟨gramOf l, intOf q, intOf s, gramOf r⟩
  | _ => ⟨[], 0, 0, []⟩
def takenL (t : Tab) (w : Nat) (L R : List Gram) (C : List Ctx) : Bool := (decide (blankG w ∈ L) && decide (blankG w ∈ R) && decide ((⟨blankG w, 0, 0, blankG w⟩ : Ctx) ∈ C)) && closedB t L R C
def takenT (t : Tab) (st sg : Int) (d : D) : Bool := wallB st sg d && match d with
  | .tup [_, .int w, l, r, c] => takenL t w.toNat ((rowsOf l).map gramOf) ((rowsOf r).map gramOf) ((rowsOf c).map ctxOf)
  | _ => false
def W_is_gram (A : Cs) : DF := fun ds P => ∃ (d : D) (w sg : Int) (n : Nat), ds = [d, .int w, .int sg] ∧ ppK n d = true ∧ P.ok (.fz, .bl (gramB w sg d)) ds
def W_is_context (A : Cs) : DF := fun ds P => ∃ (t : Tab) (st sg : Nat) (d : D) (w : Int) (n : Nat), ds = [machD A t, d, .int w] ∧ TabOk t st sg ∧ ppK n d = true ∧ P.ok (.fz, .bl (ctxB st sg w d)) ds
def W_is_row (A : Cs) : DF := fun ds P => ∃ (d : D) (n : Nat), ds = [d] ∧ ppK n d = true ∧ P.ok (.fz, .bl (isRow d)) ds
def W_wall_formed (A : Cs) : DF := fun ds P => ∃ (t : Tab) (st sg : Nat) (d : D), ds = [machD A t, d] ∧ TabOk t st sg ∧ ppK 30 d = true ∧ P.ok (.fz, .bl (wallB st sg d)) ds
def seqD (b : Bool) (xs : List D) : D := if b then .lst xs else .tup xs
def W_names_of (A : Cs) : DF := fun ds P => ∃ (ks : List NestedKey) (b : Bool), ds = [seqD b (ks.map nkD)] ∧ (∀ k ∈ ks, keyN (nkD k) = some k) ∧ ks.length ≤ 90000 ∧ P.ok (.new .N, setN (putsS ks [])) ds
def W_contexts_behind (A : Cs) : DF := fun ds P => ∃ (t : Tab) (w st sg : Nat) (c : Ctx) (L R : List Gram), ds = [machD A t, ctxD c, setN (L.map nkG), setN (R.map nkG)] ∧ TabOk t st sg ∧ 0 < w ∧ w ≤ 30000 ∧ cOk w st sg c ∧ ((∀ g ∈ L, gOk w sg g) ∧ ∀ g ∈ R, gOk w sg g) ∧ (L.length ≤ 90000 ∧ R.length ≤ 90000) ∧ entAt t c.q c.s ≠ none ∧ P.ok (.new (.L .F), .lst ((behindW t c L R).map ctxD)) ds
def W_entry_at (A : Cs) : DF := fun ds P => ∃ (t : Tab) (w st sg : Nat) (c : Ctx), ds = [machD A t, ctxD c] ∧ TabOk t st sg ∧ cOk w st sg c ∧ P.ok (.fz, entD (entAt t c.q c.s)) ds
def W_closed_under (A : Cs) : DF := fun ds P => ∃ (t : Tab) (w st sg : Nat) (L R : List Gram) (C : List Ctx), ds = [machD A t, setN (L.map nkG), setN (R.map nkG), setN (C.map nkX)] ∧ TabOk t st sg ∧ 0 < w ∧ w ≤ 30000 ∧ ((∀ g ∈ L, gOk w sg g) ∧ (∀ g ∈ R, gOk w sg g) ∧ ∀ c ∈ C, cOk w st sg c) ∧ (L.length ≤ 90000 ∧ R.length ≤ 90000 ∧ C.length ≤ 90000) ∧ P.ok (.fz, .bl (closedB t L R C)) ds
def wOf : D → Int
  | .tup (_ :: .int w :: _) => w
  | _ => 0
def W_wall_taken (A : Cs) : DF := fun ds P => ∃ (t : Tab) (st sg : Nat) (d : D), ds = [machD A t, d] ∧ TabOk t st sg ∧ ppK 30 d = true ∧ wOf d ≤ 1000 ∧ P.ok (.fz, .bl (takenT t st sg d)) ds
def wlD (s : Wl) : List D := [setN (s.L.map nkG), setN (s.R.map nkG), setN (s.C.map nkX)]
def W_grown_once (A : Cs) : DF := fun ds P => ∃ (t : Tab) (w st sg : Nat) (s : Wl), ds = machD A t :: wlD s ∧ TabOk t st sg ∧ 0 < w ∧ w ≤ 30000 ∧ wOk w st sg s ∧ (s.L.length ≤ 200 ∧ s.R.length ≤ 200 ∧ s.C.length ≤ 200) ∧ match passW t s.C s with
  | none => ∀ s', P.ok (.fz, .non) (machD A t :: wlD s')
  | some s' => P.ok (.fz, .int (sizeW s' - sizeW s : Int)) (machD A t :: wlD s')
def sortW (ds : List D) : List D := ds.mergeSort leD
def wallO (w : Nat) : Option Wl → D
  | none => .non
  | some s => .tup [.str "wall", .int w, .lst (sortW (s.L.map gramD)), .lst (sortW (s.R.map gramD)), .lst (sortW (s.C.map ctxD))]
def W_wall_of (A : Cs) : DF := fun ds P => ∃ (t : Tab) (st sg w : Nat) (most : Int), ds = [machD A t, .int w, .int most] ∧ TabOk t st sg ∧ (0 < w ∧ w ≤ 1000) ∧ most ≤ 200 ∧ P.ok (.fz, wallO w (wallR t w most)) ds
/-- the first wall of the widths up to n -/
def firstW (t : Tab) (n : Nat) : Option D := (List.range n).findSome? fun i => (wallR t (i + 1) 200).map fun s => wallO (i + 1) (some s)
def optD : Option D → D
  | none => .non
  | some d => d
def W_first_wall (A : Cs) : DF := fun ds P => ∃ (t : Tab) (st sg : Nat) (n : Int), ds = [machD A t, .int n] ∧ TabOk t st sg ∧ (-1000 ≤ n ∧ n ≤ 1000) ∧ P.ok (.fz, optD (firstW t n.toNat)) ds
section
variable {A : Cs} {t : Tab} {st sg w : Nat} {P : Pf}
theorem entat_i {c : Ctx} (ht : TabOk t st sg) (hc : cOk w st sg c) (h : P.ok (.fz, entD (entAt t c.q c.s)) [machD A t, ctxD c]) : W_entry_at A [machD A t, ctxD c] P := ⟨t, w, st, sg, c, rfl, ht, hc, h⟩
end
end My

namespace My
open PySem PySem.Spec PyProof.Rows L2 VL
/-! ### the law's sameness, None known -/
/-- what is due: ints, texts, lists and tuples of such, at most so deep -/
def ShB : Nat → D → Bool
  | _, .non => true
  | _, .int _ => true
  | _, .str _ => true
  | n + 1, .lst xs => decide (xs.length ≤ 90000) && xs.all (ShB n)
  | n + 1, .tup xs => decide (xs.length ≤ 90000) && xs.all (ShB n)
  | _, _ => false
/-- what is found: None and bools, too -/
def ShF : Nat → D → Bool
  | _, .int _ => true
  | _, .str _ => true
  | _, .non => true
  | _, .bl _ => true
  | n + 1, .lst xs => xs.all (ShF n)
  | n + 1, .tup xs => xs.all (ShF n)
  | _, _ => false
def sameB : D → D → Bool
  | .int a, .int b => decide (a = b)
  | .str a, .str b => decide (a = b)
  | .non, .non => true
  | _, _ => false
def sameD : Nat → D → D → Bool
  | n + 1, .lst xs, .lst ys => decide (xs.length = ys.length) && (xs.zip ys).all fun z => sameD n z.1 z.2
  | n + 1, .tup xs, .tup ys => decide (xs.length = ys.length) && (xs.zip ys).all fun z => sameD n z.1 z.2
  | _, x, y => sameB x y
theorem ShB.f : ∀ {n : Nat} {x : D}, ShB n x = true → ShF n x = true
  | 0, x, h => by cases x <;> simp [ShB] at h <;> simp [ShF]
  | n + 1, x, h => by
    cases x <;> simp [ShB] at h <;> simp [ShF]
    · exact fun x hx => ShB.f (h.2 x hx)
    · exact fun x hx => ShB.f (h.2 x hx)
theorem ShB.up : ∀ {n : Nat} {x : D}, ShB n x = true → ShB (n + 1) x = true
  | 0, x, h => by cases x <;> simp [ShB] at h <;> simp [ShB]
  | n + 1, x, h => by
    cases x with
    | int i => simp [ShB]
    | str i => simp [ShB]
    | lst xs =>
      simp only [ShB, Bool.and_eq_true, decide_eq_true_eq] at h
      rw [ShB]
      simp only [Bool.and_eq_true, decide_eq_true_eq]
      exact ⟨h.1, List.all_eq_true.mpr fun y hy => ShB.up (List.all_eq_true.mp h.2 y hy)⟩
    | tup xs =>
      simp only [ShB, Bool.and_eq_true, decide_eq_true_eq] at h
      rw [ShB]
      simp only [Bool.and_eq_true, decide_eq_true_eq]
      exact ⟨h.1, List.all_eq_true.mpr fun y hy => ShB.up (List.all_eq_true.mp h.2 y hy)⟩
    | non => simp [ShB]
    | bl b => simp [ShB] at h
    | dct b => simp [ShB] at h
    | obj C b => simp [ShB] at h
    | scr b => simp [ShB] at h
    | exc b => simp [ShB] at h
    | ndc b => simp [ShB] at h
    | exf _ _ => simp [ShB] at h
def W__law_same (A : Cs) : Nat → DF
  | 0 => fun _ _ => False
  | n + 1 => fun ds P => ∃ x y : D, ds = [x, y] ∧ ShF n x = true ∧ ShB n y = true ∧ P.ok (.fz, .bl (sameD n x y)) ds
end My

namespace My
open PySem PySem.Spec PyProof.Rows L2 VL
/-- the least of the pairs: the least later one, and of these the least first one -/
def firstF (p : Nat → Nat → Bool) (l : Nat) : Option Nat := (List.range l).find? fun f => p f l
def firstP (p : Nat → Nat → Bool) (n : Nat) : Option (Nat × Nat) := (List.range n).findSome? fun l => (firstF p l).map fun f => (f, l)
def optI : Option Nat → D
  | none => .non
  | some f => .int f
def paperO (k : Str) : Option (Nat × Nat) → D
  | none => .non
  | some (f, l) => .tup [.str k, .int f, .int l]
def sameR (t : Tab) (f l : Nat) : Bool := decide (sameS (runC t f cf0).2 (runC t l cf0).2)
def shR (t : Tab) (f l : Nat) : Bool := shB (runC t f cf0).2 (runC t l cf0).2 (minP t (runC t f cf0).2 (l - f)) (maxP t (runC t f cf0).2 (l - f))
/-- a shot as a key -/
def nkM (m : Cells) : List NestedKey := m.map fun y => .tup [.num y.1, .num y.2]
def nkC (x : Cf) : NestedKey := .tup [.num x.q, .num x.p, .tup (nkM (sortC x.c))]
def W_trail (A : Cs) : DF := fun ds P => ∃ (t : Tab) (st sg : Nat) (n : Int), ds = [machD A t, .int n] ∧ TabOk t st sg ∧ n ≤ 5000 ∧ P.ok (.new (.L .F), .lst ((rowC t n.toNat cf0).map shotC)) ds
def W_same_of (A : Cs) : DF := fun ds P => ∃ (t : Tab) (st sg : Nat) (n : Int), ds = [machD A t, .int n] ∧ TabOk t st sg ∧ n ≤ 5000 ∧ P.ok (.fz, paperO "same" (firstP (sameR t) ((runC t n.toNat cf0).1 + 1))) ds
def W_first_shifted (A : Cs) : DF := fun ds P => ∃ (t : Tab) (st sg n l : Nat), ds = [.lst ((rowC t n cf0).map shotC), .int l] ∧ TabOk t st sg ∧ n ≤ 5000 ∧ l ≤ (runC t n cf0).1 ∧ P.ok (.fz, optI (firstF (shR t) l)) ds
def W_shifted_of (A : Cs) : DF := fun ds P => ∃ (t : Tab) (st sg : Nat) (n : Int), ds = [machD A t, .int n] ∧ TabOk t st sg ∧ n ≤ 5000 ∧ P.ok (.fz, paperO "shifted" (firstP (shR t) ((runC t n.toNat cf0).1 + 1))) ds
section
variable {A : Cs} {t : Tab} {st sg : Nat} {P : Pf}
end
section
variable {A : Cs} {t : Tab} {st sg : Nat} {P : Pf}
end

end My

namespace My
open PySem PySem.Spec PyProof.Rows L2 VL
/-! ### papers told, taken; what is shown -/
def takesT (t : Tab) (st sg : Int) (k : Str) (d : D) : Bool := if k = "same" then roundB d "same" && sameT t (natD d 1) (natD d 2) else if k = "shifted" then roundB d "shifted" && shiftT t (natD d 1) (natD d 2) else if k = "wall" then takenT t st sg d else false
def W_takes (A : Cs) : DF := fun ds P => ∃ (t : Tab) (st sg : Nat) (k : Str) (xs : List D), ds = [machD A t, .tup (.str k :: xs)] ∧ TabOk t st sg ∧ ppK 30 (.tup (.str k :: xs)) = true ∧ (k = "wall" → wOf (.tup (.str k :: xs)) ≤ 1000) ∧ natD (.tup (.str k :: xs)) 2 ≤ 10000 ∧ k ≠ "grow" ∧ P.ok (.fz, .bl (takesT t st sg k (.tup (.str k :: xs)))) ds
def stopN (t : Tab) (n : Int) : Option Nat := if 0 ≤ n ∧ endE t (runC t n.toNat cf0).2 = true then some (runC t n.toNat cf0).1 else none
def sameO (t : Tab) (n : Int) : Option (Nat × Nat) := firstP (sameR t) ((runC t n.toNat cf0).1 + 1)
def shO (t : Tab) (n : Int) : Option (Nat × Nat) := firstP (shR t) ((runC t n.toNat cf0).1 + 1)
def foundO (t : Tab) (n w : Int) : Option D := match sameO t n with
  | some p => some (paperO "same" (some p))
  | none => match shO t n with
    | some p => some (paperO "shifted" (some p))
    | none => firstW t w.toNat
def shownD (t : Tab) (n w : Int) : D := match stopN t n with
  | some k => .tup [.str "stops", .int k]
  | none => match foundO t n w with
    | some p => .tup [.str "never", p]
    | none => .tup [.str "open", .non]
def W_shown (A : Cs) : DF := fun ds P => ∃ (t : Tab) (st sg : Nat) (n w : Int), ds = [machD A t, .int n, .int w] ∧ TabOk t st sg ∧ n ≤ 5000 ∧ (-1000 ≤ w ∧ w ≤ 1000) ∧ P.ok (.fz, shownD t n w) ds
end My

namespace My
open PySem PySem.Spec PyProof.Rows L2 VL
/-! ### numbers of machines -/
def entV (st : Int) : Ent → Int
  | none => 0
  | some (w, r, s) => 1 + (w * 2 + (if r then 1 else 0)) * st + s
def entN (st v : Int) : Ent := if v = 0 then none else some ((v - 1) / st / 2, decide ((v - 1) / st % 2 ≠ 0), (v - 1) % st)
/-- figures, the least one ahead -/
def numF (V st : Int) : List Ent → Int
  | [] => 0
  | e :: es => entV st e + V * numF V st es
def manyV (st sg : Nat) : Int := 2 * (st : Int) * sg + 1
def numT (st sg : Nat) (t : Tab) : Int := numF (manyV st sg) st t.flatten
/-! the promises -/
def W_value_of (A : Cs) : DF := fun ds P => ∃ (e : Ent) (st sg : Nat), ds = [entD e, .int st] ∧ EntOk st sg e ∧ (sg ≤ 1000 ∧ st ≤ 1000) ∧ P.ok (.fz, .int (entV st e)) ds
def W_entry_of (A : Cs) : DF := fun ds P => ∃ (v : Int) (st : Nat), ds = [.int v, .int st] ∧ (0 < st ∧ st ≤ 1000) ∧ 0 ≤ v ∧ P.ok (.fz, entD (entN st v)) ds
def W_machine_of (A : Cs) : DF := fun ds P => ∃ a b n : Int, ds = [.int a, .int b, .int n] ∧ (((a < 1 ∨ b < 1 ∨ n < 0) ∧ P.ex A.C_NoNumber [] ds) ∨ ∃ st sg : Nat, a = st ∧ b = sg ∧ (0 < st ∧ st ≤ 10) ∧ (0 < sg ∧ sg ≤ 10) ∧ 0 ≤ n ∧
  ((n < manyV st sg ^ (st * sg) ∧ ∀ t, TabOk t st sg → n = numT st sg t → P.ok (.new (.O [.F]), machD A t) ds) ∨ (manyV st sg ^ (st * sg) ≤ n ∧ P.ex A.C_NoNumber [] ds)))
def W_number_of (A : Cs) : DF := fun ds P => ∃ (t : Tab) (st sg : Nat), ds = [machD A t] ∧ TabOk t st sg ∧ (st ≤ 10 ∧ sg ≤ 10) ∧ P.ok (.fz, .int (numT st sg t)) ds
end My

namespace My
open PySem PySem.Spec PyProof.Rows L2 VL
/-! ### the law's own functions, as the later laws have them -/
def W__law_nextR (A : Cs) : DF := W__law_next A
@[simp ↓] theorem W__law_nextR_eq {A : Cs} {ns : List Int} {a : Int} {P : Pf} : W__law_nextR A [.scr ns, .lst [.int a]] P = ((0 ≤ a ∧ a ≤ 1000000000) ∧ ∀ m : Int, 0 ≤ m → m < 1999999973 → P.ok (.fz, .int m) [.scr ns, .lst [.int (a + 1)]]) := rfl
def W__law_tableR (A : Cs) : DF := fun ds P => ∃ (ns : List Int) (a : Int) (st sg : Nat), ds = [.scr ns, .lst [.int a], .int st, .int sg] ∧ (0 ≤ a ∧ a ≤ 900000000) ∧ (0 < st ∧ st ≤ 100) ∧ (0 < sg ∧ sg ≤ 100) ∧
  ∀ (t : Tab) (a' : Int), TabOk t st sg → a ≤ a' → a' ≤ a + 10000 → P.ok (.new (.L .F), tabL t) [.scr ns, .lst [.int a'], .int st, .int sg]
/-- ints, texts, lists and tuples of such -/
def shI : Nat → D → Bool
  | _, .int _ => true
  | _, .str _ => true
  | n + 1, .lst xs => decide (xs.length ≤ 90000) && xs.all (shI n)
  | n + 1, .tup xs => decide (xs.length ≤ 90000) && xs.all (shI n)
  | _, _ => false
/-- a thing is the same as itself -/
def sameS1 : Nat → DF
  | 0 => fun _ _ => False
  | n + 1 => fun ds P => ∃ x : D, ds = [x, x] ∧ shI n x = true ∧ P.ok (.fz, .bl true) ds
def W__law_sameD (A : Cs) : Nat → DF := sameS1
def W__law_sameE (A : Cs) : Nat → DF := sameS1
theorem sameE_i {A : Cs} {n : Nat} {x : D} {P : Pf} (h : shI n x = true) (hp : P.ok (.fz, .bl true) [x, x]) : W__law_sameE A (n + 1) [x, x] P := ⟨x, rfl, h, hp⟩
end My

/-! lists of one's own things, displayed -/
namespace VL
open PySem PySem.Spec PyProof.Rows L2
section
variable {K : PySem.W.Frag} {W : WX} {G G' H H' H0 : Hp} {σ : L2.St} {ρ : Rho} {f f' : Own} {pin : Nat → Option V} {X : Cx} {S S0 S1 S2 T T1 T2 U : Sta} {E : En} {Z : Ends}
/-- [x, y, ..], each held as m -/
def allN (m : Md) (xs : List (Kd × D)) : Prop := ∀ x ∈ xs, mdN x.1 = m
@[simp ↓] theorem allN_n {m : Md} : allN m [] = True := by simp [allN]
@[simp ↓] theorem allN_c {m : Md} {x : Kd × D} {xs : List (Kd × D)} : allN m (x :: xs) = (mdN x.1 = m ∧ allN m xs) := by simp [allN]
def wLstO (m : Md) (wa : DE (List (Kd × D))) : DE (Kd × D) := fun ρ P => wa ρ ⟨fun p xs ρ' => (allN m xs ∧ small xs.length = true) ∧ P.ok p (.new (.L m), .lst (xs.map (·.2))) ρ', P.ex⟩
theorem HasN.ra {m : Md} {vs : List V} {ds : List (Kd × D)} {fp : List Addr} (h : HasN K S0 S vs ds fp) (hm : allN m ds) (e : Ex S.G G') (k : ∀ a ∈ fp, ∀ o, S.H a = some o → H' a = some o) : RA K G' H' m vs (ds.map (·.2)) fp := by
  induction h with
  | nil => exact .nil
  | fz h _ ih =>
    rw [allN_c] at hm
    obtain ⟨rfl, hm⟩ := hm
    exact RA.cons (fp := []) (.F (h.mono e)) (ih hm k)
  | new r n kk dj _ ih =>
    rw [allN_c] at hm
    obtain ⟨rfl, hm⟩ := hm
    exact .cons (r.keep e fun a ha => k a (List.mem_append_left _ ha)) (ih hm fun a ha => k a (List.mem_append_right _ ha))
@[simp ↓] theorem wLstO_eq {m : Md} {wa : DE (List (Kd × D))} {P : Po (Kd × D)} : wLstO m wa ρ P = wa ρ ⟨fun p xs ρ' => (allN m xs ∧ small xs.length = true) ∧ P.ok p (.new (.L m), .lst (xs.map (·.2))) ρ', P.ex⟩ := rfl
end
end VL

/-! dicts of one's own things, displayed under texts -/
namespace VL
open PySem PySem.Spec PyProof.Rows L2
section
variable {K : PySem.W.Frag} {W : WX} {G G' H H' H0 : Hp} {σ : L2.St} {ρ : Rho} {f f' : Own} {pin : Nat → Option V} {X : Cx} {S S0 S1 S2 T T1 T2 U : Sta} {E : En} {Z : Ends}
theorem tgen.mono {τ α : Type} {L : Rl τ α} {w : DE α} {Q Q' : τ → Hp → Prop} (h : tgen L K W w σ H Q) (k : ∀ v H, Q v H → Q' v H) : tgen L K W w σ H Q' := by
  obtain ⟨S, P, e1, e2, ok, w', a, b⟩ := h
  exact ⟨S, P, e1, e2, ok, w', fun p x T h1 h2 h3 h4 h5 v h6 => k _ _ (a p x T h1 h2 h3 h4 h5 v h6), b⟩
/-- the pairs of such a display -/
structure QPs (X : Cx) (W : WX) (pos : Pos) (ks : List (Option Expr)) (vs : List Expr) (kn : List Str) (wa : DE (List (Kd × D))) : Prop where
  run : ∃ trs, PPs X pos ks vs trs ∧ ∀ σ H (Q : List (V × V) → Hp → Prop), tn X.K W wa σ H (fun us H2 => Q ((kn.map V.str).zip us) H2) → tPairs trs σ H Q
theorem qp_nil {pos : Pos} : QPs X W pos [] [] [] wNilN := ⟨[], pps_nil, fun σ H Q h => tn_nil h⟩
theorem qp_cons {pos : Pos} {x : Str} {j : Pos} {v : Expr} {ks : List (Option Expr)} {vs : List Expr} {kn : List Str} {wv : DE (Kd × D)} {wr : DE (List (Kd × D))} {k : Expr} (hk : PE X k (tC (.str x))) (hv : PE X v (te X.K W wv)) (hr : QPs X W pos ks vs kn wr) :
    QPs X W pos (some k :: ks) (v :: vs) (x :: kn) (wConsN wv wr) := by
  obtain ⟨trs, hp, ht⟩ := hr
  refine ⟨(tC (.str x), te X.K W wv) :: trs, pps_cons hk hv hp, fun σ H Q h => ?_⟩
  have h : te X.K W wv σ H (fun x H1 => tn X.K W wr σ H1 fun xs H2 => Q ((List.map V.str (_ :: kn)).zip (x :: xs)) H2) := tn_cons h
  show te X.K W wv σ H fun y H2 => tPairs trs σ H2 fun ps H3 => Q ((V.str x, y) :: ps) H3
  refine tgen.mono h fun v1 H1 h1 => ?_
  exact ht σ H1 _ (tgen.mono h1 fun us H2 h2 => h2)
theorem putK_new {kvs : List (Key × V)} {k : Key} {v : V} (h : ∀ x ∈ kvs, x.1 ≠ k) : L2.putK kvs k v = kvs ++ [(k, v)] := by
  unfold L2.putK
  have : (kvs.any fun kv => decide (kv.1 = k)) = false := by
    rw [List.any_eq_false]
    intro x hx
    simpa using h x hx
  simp [this]
theorem mergeK_nd : ∀ {more kvs : List (Key × V)}, ((kvs ++ more).map (·.1)).Nodup → mergeK kvs more = kvs ++ more
  | [], kvs, _ => by simp [mergeK]
  | p :: more, kvs, h => by
    show mergeK (L2.putK kvs p.1 p.2) more = _
    rw [putK_new, mergeK_nd]
    · simp
    · simpa using h
    · intro x hx e
      rw [List.map_append, List.nodup_append] at h
      exact h.2.2 x.1 (List.mem_map.mpr ⟨x, hx, rfl⟩) p.1 (List.mem_map.mpr ⟨p, List.mem_cons_self, rfl⟩) e
/-- {k: x, ..}, each held as m -/
def wDispO (m : Md) (kn : List Str) (wa : DE (List (Kd × D))) : DE (Kd × D) := fun ρ P => wa ρ ⟨fun p xs ρ' => (allN m xs ∧ xs.length = kn.length ∧ kn.Nodup ∧ kn.length ≤ 15) ∧ P.ok p (.new (.M m), .dct ((kn.map Sum.inr).zip (xs.map (·.2)))) ρ', P.ex⟩
theorem HasN.rk {m : Md} {vs : List V} {ds : List (Kd × D)} {fp : List Addr} (h : HasN K S0 S vs ds fp) : ∀ (kn : List Key), allN m ds → kn.length = ds.length → Ex S.G G' → (∀ a ∈ fp, ∀ o, S.H a = some o → H' a = some o) → RK K G' H' m (kn.zip vs) (kn.zip (ds.map (·.2))) fp := by
  induction h with
  | nil => intro kn _ hl _ _; cases kn with
    | nil => exact .nil
    | cons => simp at hl
  | fz h _ ih =>
    intro kn hm hl e k
    rw [allN_c] at hm
    obtain ⟨rfl, hm⟩ := hm
    cases kn with
    | nil => simp at hl
    | cons x kn => exact RK.cons (fp := []) (.F (h.mono e)) (ih kn hm (by simpa using hl) e k)
  | new r n kk dj _ ih =>
    intro kn hm hl e k
    rw [allN_c] at hm
    obtain ⟨rfl, hm⟩ := hm
    cases kn with
    | nil => simp at hl
    | cons x kn => exact .cons (r.keep e fun a ha => k a (List.mem_append_left _ ha)) (ih kn hm (by simpa using hl) e fun a ha => k a (List.mem_append_right _ ha))
theorem zip_pairs : ∀ (kn : List Str) (us : List V), (kn.map V.str).zip us = ((kn.map (Sum.inr : Str → Key)).zip us).map fun kv => (kV kv.1, kv.2)
  | [], _ => rfl
  | _ :: _, [] => rfl
  | k :: kn, u :: us => by
    simp only [List.map_cons, List.zip_cons_cons]
    rw [zip_pairs kn us]
    rfl
theorem te_dispO {m : Md} {kn : List Str} {wa : DE (List (Kd × D))} {Q : VK} {trs : List (TE × TE)} (ht : ∀ σ H (Q : List (V × V) → Hp → Prop), tn K W wa σ H (fun us H2 => Q ((kn.map V.str).zip us) H2) → tPairs trs σ H Q) (h : te K W (wDispO m kn wa) σ H Q) : tDisp trs σ H Q := by
  obtain ⟨S, P, rfl, rfl, ok, w, k, ex⟩ := h
  intro p hp
  refine ht _ _ _ ?_
  have g : Grow S.G S.H S.G (upd S.H p (.dK [])) := Grow.own ok.ext hp
  have ok0 := Sta.grow ok g
  have gp : S.G p = none := ok.ext.free hp
  have np : ¬ Ow S.f p := fun z => ok.own z hp
  refine ⟨S.at S.G (upd S.H p (.dK [])), _, rfl, rfl, ok0, w, fun p1 x S2 w1 e2 ok2 t12 pr1 us hu => ?_, fun C fl T e es okT tT dd hd => ex C fl T e es okT (g.to.trans tT) dd hd⟩
  obtain ⟨fp, hu⟩ := hu
  obtain ⟨⟨hm, hl, hn, h15⟩, w2⟩ := w1
  obtain ⟨n1, n2, n3⟩ := hu.all
  have hul := hu.len
  have hpp : (S.at S.G (upd S.H p (.dK []))).H p = some (.dK []) := upd_same
  have hnp : ¬ Ow (S.at S.G (upd S.H p (.dK []))).f p := np
  have k1 : S2.H p = some (.dK []) := t12.stp.keep p _ hpp hnp
  have k2 : S2.G p = none := by
    rw [t12.stp.gold p (by rw [hpp]; exact fun z => nomatch z) hnp]
    exact gp
  have k3 : ¬ Ow S2.f p := fun z => by
    rcases t12.stp.fnew p z with z | z
    · exact hnp z
    · rw [hpp] at z; cases z
  have pfp : p ∉ fp := fun c => by
    rcases (n2 p c).2.2 with z | z
    · exact hnp z
    · rw [hpp] at z; cases z
  obtain ⟨kvs, hk⟩ : ∃ kvs : List (Key × V), kvs = (kn.map Sum.inr).zip us := ⟨_, rfl⟩
  have km : kvs.map (·.1) = kn.map Sum.inr := by
    rw [hk]
    exact List.map_fst_zip (by simp; omega)
  have knd : (kvs.map (·.1)).Nodup := by
    rw [km]
    exact List.Pairwise.map _ (fun a b hne e => hne (by simpa using e)) hn
  refine ⟨k1, kvs, by rw [hk]; exact zip_pairs _ _, by
    have : kvs.length = kn.length := by rw [← List.length_map (·.1), km, List.length_map]
    omega, ?_⟩
  rw [mergeK_nd (kvs := []) (by simpa using knd), List.nil_append]
  have ok3 : Sta.ok K (S2.at S2.G (upd S2.H p (.dK kvs))) := ok2.aside k2 k3
  refine k _ _ (S2.at S2.G (upd S2.H p (.dK kvs))) w2 e2 ok3 ⟨⟨t12.stp.gext, fun a o ha hn => ?_, fun a ha hn => ?_, fun a ha => ?_, fun a ha => ?_⟩, t12.pin⟩ ?_ _ ⟨p :: fp, .M upd_same ?_, List.nodup_cons.mpr ⟨pfp, n1⟩, fun a ha => ?_⟩
  · have c : a ≠ p := fun c => by rw [c, hp] at ha; cases ha
    show upd S2.H p _ a = _
    rw [upd_ne c]
    exact t12.stp.keep a o (by show upd S.H p _ a = _; rw [upd_ne c]; exact ha) hn
  · have c : a ≠ p := fun c => ha (by rw [c]; exact hp)
    exact t12.stp.gold a (by show upd S.H p _ a ≠ _; rw [upd_ne c]; exact ha) hn
  · rcases t12.stp.fnew a ha with z | z
    · exact .inl z
    · refine .inr ?_
      have z : upd S.H p (.dK []) a = none := z
      by_cases c : a = p
      · rw [c]; exact hp
      · rwa [upd_ne c] at z
  · show upd S2.H p _ a ≠ none
    by_cases c : a = p
    · rw [c, upd_same]; exact fun z => nomatch z
    · rw [upd_ne c]
      exact t12.stp.trk a (by show upd S.H p _ a ≠ _; rw [upd_ne c]; exact ha)
  · intro i hi
    obtain ⟨z1, z2, z3⟩ := pr1 i hi
    refine ⟨z1, z2, fun a ha o ho => ?_⟩
    have c : a ≠ p := fun c => by rw [c, hp] at ho; cases ho
    show upd S2.H p _ a = _
    rw [upd_ne c]
    exact z3 a ha o (by show upd S.H p _ a = _; rw [upd_ne c]; exact ho)
  · rw [hk]
    exact hu.rk _ hm (by simp [hl]) (Ex.refl _) fun a ha o ho => by
      have c : a ≠ p := fun c => pfp (c ▸ ha)
      exact (upd_ne c).trans ho
  · rcases List.mem_cons.mp ha with rfl | ha
    · exact ⟨k2, k3, .inr hp⟩
    · obtain ⟨q1, q2, q3⟩ := n2 a ha
      refine ⟨q1, q2, ?_⟩
      rcases q3 with z | z
      · exact .inl z
      · refine .inr ?_
        have z : upd S.H p (.dK []) a = none := z
        by_cases c : a = p
        · rw [c]; exact hp
        · rwa [upd_ne c] at z
theorem q_dispO {m : Md} {pos : Pos} {ks : List (Option Expr)} {vs : List Expr} {kn : List Str} {wa : DE (List (Kd × D))} (h : QPs X W pos ks vs kn wa) (hall : ks.all (·.isSome) = true := by rfl) (hl : ks.length = vs.length := by rfl) (h0 : ks ≠ [] := by simp) (h15 : ks.length ≤ 15 := by decide) :
    PE X (.Dict ks vs pos) (te X.K W (wDispO m kn wa)) := by
  obtain ⟨trs, hp, ht⟩ := h.run
  exact PE.imp (pe_disp hp hall hl h0 h15) fun _ _ _ h => te_dispO ht h
@[simp ↓] theorem wDispO_eq {m : Md} {kn : List Str} {wa : DE (List (Kd × D))} {P : Po (Kd × D)} : wDispO m kn wa ρ P = wa ρ ⟨fun p xs ρ' => (allN m xs ∧ xs.length = kn.length ∧ kn.Nodup ∧ kn.length ≤ 15) ∧ P.ok p (.new (.M m), .dct ((kn.map Sum.inr).zip (xs.map (·.2)))) ρ', P.ex⟩ := rfl
end
end VL

namespace My
open PySem PySem.Spec PyProof.Rows L2 VL
local macro_rules | `(tactic| simp $[[$args,*]]? $[$loc]?) => `(tactic| simp -implicitDefEqProofs $[[$args,*]]? $[$loc]?)
local macro_rules | `(tactic| simpa $[[$args,*]]? using $e) => `(tactic| simpa -implicitDefEqProofs $[[$args,*]]? using $e)
/-! ### k50: the least wall, as the law gathers it -/
def loopL (t : Tab) : Nat → Wl → Option Wl
  | 0, s => some s
  | n + 1, s => if 62 ≤ s.C.length then some s else match passW t s.C s with
    | none => none
    | some s' => if sizeW s' = sizeW s then some s' else loopL t n s'
def leastW (t : Tab) (w : Nat) : Option Wl := loopL t 200 (wl0 w)
theorem loopL_mono {t : Tab} : ∀ {n : Nat} {s u : Wl}, loopL t n s = some u → s.C.length ≤ u.C.length
  | 0, s, u, h => by cases h; exact Nat.le_refl _
  | n + 1, s, u, h => by
    unfold loopL at h
    split at h
    · cases h; exact Nat.le_refl _
    · cases e : passW t s.C s with
      | none => rw [e] at h; cases h
      | some s' =>
        rw [e] at h
        have hl := (passW_len e).2.2
        dsimp only at h
        split at h
        · cases h; exact hl
        · exact Nat.le_trans hl (loopL_mono h)
theorem passW_siz {t : Tab} {cs : List Ctx} {s s' : Wl} (e : passW t cs s = some s') : sizeW s ≤ sizeW s' := by
  have := passW_len e
  unfold sizeW
  omega
theorem least_loop {t : Tab} {w st sg : Nat} (ht : TabOk t st sg) (hw : 0 < w) {most : Int} (hm : most ≤ 61) : ∀ {n m : Nat} {s : Wl}, wOk w st sg s → ofC s → 200 ≤ n + sizeW s → 3 * most.toNat + 10 ≤ m + sizeW s →
    match loopL t n s with
    | none => loopW t most m s = none
    | some u => (most < u.C.length ∧ loopW t most m s = none) ∨ ((u.C.length : Int) ≤ most ∧ loopW t most m s = some u) := by
  intro n
  induction n with
  | zero =>
    intro m s ho hf hn hm2
    have hl := hf.len ho
    have hC : 62 ≤ s.C.length := by unfold sizeW at hn; omega
    refine .inl ⟨by show most < s.C.length; omega, ?_⟩
    cases m with
    | zero => rfl
    | succ m => rw [loopW, if_pos (by omega)]
  | succ n ih =>
    intro m s ho hf hn hm2
    have hl := hf.len ho
    by_cases c1 : most < s.C.length
    · have e0 : loopW t most m s = none := by
        cases m with
        | zero => rfl
        | succ m => rw [loopW, if_pos c1]
      cases e : loopL t (n + 1) s with
      | none => exact e0
      | some u =>
        have := loopL_mono e
        exact .inl ⟨by omega, e0⟩
    · cases m with
      | zero => unfold sizeW at hm2; omega
      | succ m =>
        have c2 : ¬ 62 ≤ s.C.length := by omega
        rw [loopW, if_neg c1]
        unfold loopL
        rw [if_neg c2]
        cases e : passW t s.C s with
        | none => rfl
        | some s' =>
          obtain ⟨a1, a2⟩ := passW_ok ht hw ho.c ho e
          have a3 := passW_ofC (fun _ h => h) hf e
          have a4 := passW_siz e
          by_cases c3 : sizeW s' = sizeW s
          · obtain ⟨a5, _⟩ := passW_eq e c3
            dsimp only
            rw [if_pos c3, if_pos c3]
            subst a5
            exact .inr ⟨by omega, rfl⟩
          · dsimp only
            rw [if_neg c3, if_neg c3]
            exact ih a1 a3 (by omega) (by omega)
/-- the program's wall and the law's -/
theorem least_wall {t : Tab} {w st sg : Nat} (ht : TabOk t st sg) (hw : 0 < w) {most : Int} (hm : most ≤ 61) :
    match leastW t w with
    | none => wallR t w most = none
    | some u => (most < u.C.length ∧ wallR t w most = none) ∨ ((u.C.length : Int) ≤ most ∧ wallR t w most = some u) := by
  unfold leastW wallR
  exact least_loop ht hw hm (wl0_ok ht) wl0_ofC (by omega) (by omega)
def behN (t : Tab) (c : Ctx) (L R : List Gram) : D := match entAt t c.q c.s with
  | none => .non
  | some (_, d, _) => .tup [.str (if d then "l" else "r"), gramD (if d then c.l else c.r), .lst ((behindW t c L R).map ctxD)]
def W__law_behindN (A : Cs) : DF := fun ds P => ∃ (t : Tab) (w st sg : Nat) (c : Ctx) (L R : List Gram), ds = [tabL t, ctxD c, setN (L.map nkG), setN (R.map nkG)] ∧ TabOk t st sg ∧ (0 < w ∧ w ≤ 1000) ∧ cOk w st sg c ∧ ((∀ g ∈ L, gOk w sg g) ∧ ∀ g ∈ R, gOk w sg g) ∧ (L.length ≤ 20000 ∧ R.length ≤ 20000) ∧ P.ok (.fz, behN t c L R) ds
def W__law_least (A : Cs) : DF := fun ds P => ∃ (t : Tab) (st sg w : Nat), ds = [tabL t, .int w] ∧ TabOk t st sg ∧ (0 < w ∧ w ≤ 1000) ∧ P.ok (.fz, wallO w (leastW t w)) ds
end My

namespace My
open PySem PySem.Spec PyProof.Rows L2 VL
def w_is_gram (A : Cs) : DS :=
  wSeq (wIfS (wOr (wNot (wT (wIsi "tuple" (wVar 0)))) (wT (wOp oNe (wCB oLen (wCons (wVar 0) (wNil))) (wVar 1)))) (wRet (wC (.bl false))) (wNext)) <|
  wRet (wCB oAll (wCons (wLc (wIt (wVar 0)) (wgN 3) (wYes) (wCall [.F, .F] (W_is_number A) [] (wCons (wVar 3) (wCons (wVar 2) (wNil)))) [3] []) (wNil)))

def w_is_context (A : Cs) : DS :=
  wSeq (wIfS (wOr (wNot (wT (wIsi "tuple" (wVar 1)))) (wT (wOp oNe (wCB oLen (wCons (wVar 1) (wNil))) (wC (.int 4))))) (wRet (wC (.bl false))) (wNext)) <|
  wSeq (wAsg (wVar 1) (wgTup 4 (wgCons (wgN 3) (wgCons (wgN 4) (wgCons (wgN 5) (wgCons (wgN 6) (wgNil))))))) <|
  wSeq (wSet 7 (wFz (wCall [.F] (W_signs_of A) [] (wCons (wVar 0) (wNil))))) <|
  wSeq (wIfS (wOr (wNot (wT (wCall [.F, .F] (W_is_number A) [] (wCons (wVar 4) (wCons (wCall [.F] (W_states_of A) [] (wCons (wVar 0) (wNil))) (wNil)))))) (wNot (wT (wCall [.F, .F] (W_is_number A) [] (wCons (wVar 5) (wCons (wVar 7) (wNil))))))) (wRet (wC (.bl false))) (wNext)) <|
  wRet (wAndV (wCall [.F, .F, .F] (W_is_gram A) [] (wCons (wVar 3) (wCons (wVar 2) (wCons (wVar 7) (wNil))))) (wCall [.F, .F, .F] (W_is_gram A) [] (wCons (wVar 6) (wCons (wVar 2) (wCons (wVar 7) (wNil))))))

def w_is_row (A : Cs) : DS :=
  wRet (wOrV (wIsi "list" (wVar 0)) (wIsi "tuple" (wVar 0)))

def w_wall_formed (A : Cs) : DS :=
  wSeq (wIfS (wOr (wNot (wT (wIsi "tuple" (wVar 1)))) (wOr (wT (wOp oNeX (wCB oLen (wCons (wVar 1) (wNil))) (wC (.int 5)))) (wT (wOp oNeX (wOp oIx (wVar 1) (wC (.int 0))) (wC (.str "wall")))))) (wRet (wC (.bl false))) (wNext)) <|
  wSeq (wAsg (wVar 1) (wgTup 5 (wgCons (wgN 2) (wgCons (wgN 3) (wgCons (wgN 4) (wgCons (wgN 5) (wgCons (wgN 6) (wgNil)))))))) <|
  wSeq (wIfS (wOr (wNot (wT (wIsi "int" (wVar 3)))) (wOr (wT (wIsi "bool" (wVar 3))) (wT (wOp (oB0 fun i j => decide (i < j)) (wVar 3) (wC (.int 1)))))) (wRet (wC (.bl false))) (wNext)) <|
  wSeq (wIfS (wOr (wNot (wT (wCall [.F] (W_is_row A) [] (wCons (wVar 4) (wNil))))) (wOr (wNot (wT (wCall [.F] (W_is_row A) [] (wCons (wVar 5) (wNil))))) (wNot (wT (wCall [.F] (W_is_row A) [] (wCons (wVar 6) (wNil))))))) (wRet (wC (.bl false))) (wNext)) <|
  wSeq (wSet 7 (wFz (wCall [.F] (W_signs_of A) [] (wCons (wVar 0) (wNil))))) <|
  wSeq (wIfS (wNot (wT (wCB oAll (wCons (wLc (wIt (wOp oAdd (wCB oList (wCons (wVar 4) (wNil))) (wCB oList (wCons (wVar 5) (wNil))))) (wgN 8) (wYes) (wCall [.F, .F, .F] (W_is_gram A) [] (wCons (wVar 8) (wCons (wVar 3) (wCons (wVar 7) (wNil))))) [8] []) (wNil))))) (wRet (wC (.bl false))) (wNext)) <|
  wRet (wCB oAll (wCons (wLc (wIt (wVar 6)) (wgN 9) (wYes) (wCall [.F, .F, .F] (W_is_context A) [] (wCons (wVar 0) (wCons (wVar 9) (wCons (wVar 3) (wNil))))) [9] []) (wNil)))

def w_names_of (A : Cs) : DS :=
  wSeq (wSet 1 (wDicN)) <|
  wSeq (wFor (wIt (wVar 0)) (wgN 2) (wSubN (wC (.bl true)) (wVar 1) (wVar 2))) <|
  wRet (wMov 1)

def w_contexts_behind (A : Cs) : DS :=
  wSeq (wAsg (wVar 1) (wgTup 4 (wgCons (wgN 4) (wgCons (wgN 5) (wgCons (wgN 6) (wgCons (wgN 7) (wgNil))))))) <|
  wSeq (wAsg (wOp oIx (wOp oIx (wFld A.C_Machine "table" 0 (wVar 0)) (wVar 5)) (wVar 6)) (wgTup 3 (wgCons (wgN 8) (wgCons (wgN 9) (wgCons (wgN 10) (wgNil)))))) <|
  wSeq (wIfS (wT (wOp oEqX (wVar 9) (wC (.str "r")))) (wSeq (wSet 11 (wFz (wOp oAdd (wTup (wCons (wVar 8) (wNil))) (wSl (wVar 4) (wNo) (wSo (wUn oNeg (wC (.int 1)))))))) <|
  wRet (wLc (wItN (wVar 3)) (wgN 12) (wT (wOp oEqX (wSl (wVar 12) (wNo) (wSo (wUn oNeg (wC (.int 1))))) (wSl (wVar 7) (wSo (wC (.int 1))) (wNo)))) (wTup (wCons (wVar 11) (wCons (wVar 10) (wCons (wOp oIx (wVar 7) (wC (.int 0))) (wCons (wVar 12) (wNil)))))) [12] [])) (wNext)) <|
  wSeq (wSet 11 (wFz (wOp oAdd (wTup (wCons (wVar 8) (wNil))) (wSl (wVar 7) (wNo) (wSo (wUn oNeg (wC (.int 1)))))))) <|
  wRet (wLc (wItN (wVar 2)) (wgN 12) (wT (wOp oEqX (wSl (wVar 12) (wNo) (wSo (wUn oNeg (wC (.int 1))))) (wSl (wVar 4) (wSo (wC (.int 1))) (wNo)))) (wTup (wCons (wVar 12) (wCons (wVar 10) (wCons (wOp oIx (wVar 4) (wC (.int 0))) (wCons (wVar 11) (wNil)))))) [12] [])

def w_entry_at (A : Cs) : DS :=
  wRet (wOp oIx (wOp oIx (wFld A.C_Machine "table" 0 (wVar 0)) (wOp oIx (wVar 1) (wC (.int 1)))) (wOp oIx (wVar 1) (wC (.int 2))))

def w_closed_under (A : Cs) : DS :=
  wSeq (wFor (wItN (wVar 3)) (wgN 4) (wSeq (wSet 5 (wFz (wCall [.F, .F] (W_entry_at A) [] (wCons (wVar 0) (wCons (wVar 4) (wNil)))))) <|
  wSeq (wIfS (wT (wOp oIsN (wVar 5) (wC .non))) (wRet (wC (.bl false))) (wNext)) <|
  wSeq (wIfS (wOr (wAnd (wT (wOp oEq (wOp oIx (wVar 5) (wC (.int 1))) (wC (.str "r")))) (wT (wOp oNotInX (wOp oIx (wVar 4) (wC (.int 0))) (wVar 1)))) (wAnd (wT (wOp oEq (wOp oIx (wVar 5) (wC (.int 1))) (wC (.str "l")))) (wT (wOp oNotInX (wOp oIx (wVar 4) (wC (.int 3))) (wVar 2))))) (wRet (wC (.bl false))) (wNext)) <|
  wFor (wIt (wCall [.F, .F, .F, .F] (W_contexts_behind A) [] (wCons (wVar 0) (wCons (wVar 4) (wCons (wVar 1) (wCons (wVar 2) (wNil))))))) (wgN 6) (wIfS (wT (wOp oNotInX (wVar 6) (wVar 3))) (wRet (wC (.bl false))) (wNext)))) <|
  wRet (wC (.bl true))

def w_wall_taken (A : Cs) : DS :=
  wSeq (wIfS (wOr (wNot (wT (wCall [.F, .F] (W_wall_formed A) [] (wCons (wVar 0) (wCons (wVar 1) (wNil)))))) (wT (wOp oEq (wCB oLen (wCons (wOp oIx (wVar 1) (wC (.int 2))) (wNil))) (wC (.int 0))))) (wRet (wC (.bl false))) (wNext)) <|
  wSeq (wSet 2 (wFz (wOp oMulX (wTup (wCons (wC (.int 0)) (wNil))) (wOp oIx (wVar 1) (wC (.int 1)))))) <|
  wSeq (wSet 3 (wFz (wCall [.F] (W_names_of A) [] (wCons (wOp oIx (wVar 1) (wC (.int 2))) (wNil))))) <|
  wSeq (wSet 4 (wFz (wCall [.F] (W_names_of A) [] (wCons (wOp oIx (wVar 1) (wC (.int 3))) (wNil))))) <|
  wSeq (wSet 5 (wFz (wCall [.F] (W_names_of A) [] (wCons (wOp oIx (wVar 1) (wC (.int 4))) (wNil))))) <|
  wSeq (wIfS (wOr (wT (wOp oNotInX (wVar 2) (wVar 3))) (wOr (wT (wOp oNotInX (wVar 2) (wVar 4))) (wT (wOp oNotInX (wTup (wCons (wVar 2) (wCons (wC (.int 0)) (wCons (wC (.int 0)) (wCons (wVar 2) (wNil)))))) (wVar 5))))) (wRet (wC (.bl false))) (wNext)) <|
  wRet (wCall [.F, .F, .F, .F] (W_closed_under A) [] (wCons (wVar 0) (wCons (wVar 3) (wCons (wVar 4) (wCons (wVar 5) (wNil))))))

def w_grown_once (A : Cs) : DS :=
  wSeq (wSet 4 (wFz (wOp oAdd (wOp oAdd (wCB oLenX (wCons (wVar 1) (wNil))) (wCB oLenX (wCons (wVar 2) (wNil)))) (wCB oLenX (wCons (wVar 3) (wNil)))))) <|
  wSeq (wFor (wIt (wCB oListX (wCons (wVar 3) (wNil)))) (wgN 5) (wSeq (wSet 6 (wFz (wCall [.F, .F] (W_entry_at A) [] (wCons (wVar 0) (wCons (wVar 5) (wNil)))))) <|
  wSeq (wIfS (wT (wOp oIsN (wVar 6) (wC .non))) (wRet (wC .non)) (wNext)) <|
  wSeq (wIfS (wT (wOp oEq (wOp oIx (wVar 6) (wC (.int 1))) (wC (.str "r")))) (wSubN (wC (.bl true)) (wVar 1) (wOp oIx (wVar 5) (wC (.int 0)))) (wSubN (wC (.bl true)) (wVar 2) (wOp oIx (wVar 5) (wC (.int 3))))) <|
  wFor (wIt (wLendD 2 (wLendD 1 (wCall [.F, .F, .F, .F] (W_contexts_behind A) [] (wCons (wVar 0) (wCons (wVar 5) (wCons (wVar 1) (wCons (wVar 2) (wNil))))))))) (wgN 7) (wSubN (wC (.bl true)) (wVar 3) (wVar 7)))) <|
  wRet (wOp (oI0 fun i j => i - j) (wOp oAdd (wOp oAdd (wCB oLenX (wCons (wVar 1) (wNil))) (wCB oLenX (wCons (wVar 2) (wNil)))) (wCB oLenX (wCons (wVar 3) (wNil)))) (wVar 4))

def w_wall_of (A : Cs) : DS :=
  wSeq (wIfS (wT (wOp (oB0 fun i j => decide (i < j)) (wVar 1) (wC (.int 1)))) (wNever) (wNext)) <|
  wSeq (wSet 3 (wFz (wOp oMulX (wTup (wCons (wC (.int 0)) (wNil))) (wVar 1)))) <|
  wSeq (wSet 4 (wDispN (wVar 3) (wC (.bl true)))) <|
  wSeq (wSet 5 (wDispN (wVar 3) (wC (.bl true)))) <|
  wSeq (wSet 6 (wDispN (wTup (wCons (wVar 3) (wCons (wC (.int 0)) (wCons (wC (.int 0)) (wCons (wVar 3) (wNil)))))) (wC (.bl true)))) <|
  wSeq (wSet 7 (wFz (wC (.int 1)))) <|
  wSeq (wWhile (wT (wOp (oB0 fun i j => decide (j < i)) (wVar 7) (wC (.int 0)))) (wSeq (wIfS (wT (wOp (oB0 fun i j => decide (j < i)) (wCB oLenX (wCons (wVar 6) (wNil))) (wVar 2))) (wRet (wC .non)) (wNext)) <|
  wSeq (wSet 7 (wFz (wCall [.F, .P (.N), .P (.N), .P (.N)] (W_grown_once A) [] (wCons (wVar 0) (wCons (wVar 4) (wCons (wVar 5) (wCons (wVar 6) (wNil)))))))) <|
  wIfS (wT (wOp oIsN (wVar 7) (wC .non))) (wRet (wC .non)) (wNext))) <|
  wRet (wTup (wCons (wC (.str "wall")) (wCons (wVar 1) (wCons (wCB oSortedX (wCons (wCB oListX (wCons (wVar 4) (wNil))) (wNil))) (wCons (wCB oSortedX (wCons (wCB oListX (wCons (wVar 5) (wNil))) (wNil))) (wCons (wCB oSortedX (wCons (wCB oListX (wCons (wVar 6) (wNil))) (wNil))) (wNil)))))))

def w_first_wall (A : Cs) : DS :=
  wSeq (wFor (wRng2 (wCons (wC (.int 1)) (wCons (wOp oAdd (wVar 1) (wC (.int 1))) (wNil)))) (wgN 2) (wSeq (wSet 3 (wFz (wCall [.F, .F, .F] (W_wall_of A) [] (wCons (wVar 0) (wCons (wVar 2) (wCons (wC (.int 200)) (wNil))))))) <|
  wIfS (wT (wOp oNotN (wVar 3) (wC .non))) (wRet (wVar 3)) (wNext))) <|
  wRet (wC .non)


end My

namespace My
open PySem PySem.Spec PyProof.Rows L2 VL
def w_is_number (A : Cs) : DS :=
  wRet (wAndV (wIsi "int" (wVar 0)) (wAndV (wNotV (wIsi "bool" (wVar 0))) (wChain (oB0 fun i j => decide (i ≤ j)) (oB0 fun i j => decide (i < j)) (wC (.int 0)) (wVar 0) (wVar 1))))

def w_entry_kept (A : Cs) : DS :=
  wSeq (wIfS (wT (wOp oIsN (wVar 0) (wC .non))) (wRet (wC .non)) (wNext)) <|
  wSeq (wIfS (wOr (wNot (wT (wIsi "tuple" (wVar 0)))) (wT (wOp oNe (wCB oLen (wCons (wVar 0) (wNil))) (wC (.int 3))))) (wNever) (wNext)) <|
  wSeq (wAsg (wVar 0) (wgTup 3 (wgCons (wgN 3) (wgCons (wgN 4) (wgCons (wgN 5) (wgNil)))))) <|
  wSeq (wIfS (wOr (wNot (wT (wCall [.F, .F] (W_is_number A) [] (wCons (wVar 3) (wCons (wVar 2) (wNil)))))) (wOr (wT (wOp oNotIn (wVar 4) (wTup (wCons (wC (.str "l")) (wCons (wC (.str "r")) (wNil)))))) (wNot (wT (wCall [.F, .F] (W_is_number A) [] (wCons (wVar 5) (wCons (wVar 1) (wNil)))))))) (wNever) (wNext)) <|
  wRet (wTup (wCons (wVar 3) (wCons (wVar 4) (wCons (wVar 5) (wNil)))))

def w_Machine_init (A : Cs) : DS :=
  wSeq (wIfS (wOr (wT (wOp oEq (wCB oLen (wCons (wVar 1) (wNil))) (wC (.int 0)))) (wT (wOp oEq (wCB oLen (wCons (wOp oIx (wVar 1) (wC (.int 0))) (wNil))) (wC (.int 0))))) (wNever) (wNext)) <|
  wSeq (wSet 2 (wFz (wCB oLen (wCons (wVar 1) (wNil))))) <|
  wSeq (wSet 3 (wFz (wCB oLen (wCons (wOp oIx (wVar 1) (wC (.int 0))) (wNil))))) <|
  wSeq (wSet 4 (wLst (wNil))) <|
  wSeq (wFor (wIt (wVar 1)) (wgN 5) (wSeq (wIfS (wT (wOp oNe (wCB oLen (wCons (wVar 5) (wNil))) (wVar 3))) (wNever) (wNext)) <|
  wDrop (wMut mApp (wVar 4) (wCons (wCB oTuple (wCons (wLc (wIt (wVar 5)) (wgN 6) (wYes) (wCall [.F, .F, .F] (W_entry_kept A) [] (wCons (wVar 6) (wCons (wVar 2) (wCons (wVar 3) (wNil))))) [6] []) (wNil))) (wNil))))) <|
  wPutF 0 A.C_Machine "table" 0 (wFz (wCB oTuple (wCons (wVar 4) (wNil))))

def w_states_of (A : Cs) : DS :=
  wRet (wCB oLen (wCons (wFld A.C_Machine "table" 0 (wVar 0)) (wNil)))

def w_signs_of (A : Cs) : DS :=
  wRet (wCB oLen (wCons (wOp oIx (wFld A.C_Machine "table" 0 (wVar 0)) (wC (.int 0))) (wNil)))

def w_ask_shot (A : Cs) : DS :=
  wSeq (wAsg (wVar 1) (wgTup 3 (wgCons (wgN 2) (wgCons (wgN 3) (wgCons (wgN 4) (wgNil)))))) <|
  wSeq (wIfS (wNot (wT (wCall [.F, .F] (W_is_number A) [] (wCons (wVar 2) (wCons (wCall [.F] (W_states_of A) [] (wCons (wVar 0) (wNil))) (wNil)))))) (wRaise A.C_NoShot) (wNext)) <|
  wSeq (wSet 5 (wFz (wC .non))) <|
  wFor (wIt (wVar 4)) (wgTup 2 (wgCons (wgN 6) (wgCons (wgN 7) (wgNil)))) (wSeq (wIfS (wOr (wNot (wT (wCall [.F, .F] (W_is_number A) [] (wCons (wVar 7) (wCons (wCall [.F] (W_signs_of A) [] (wCons (wVar 0) (wNil))) (wNil)))))) (wT (wOp oEq (wVar 7) (wC (.int 0))))) (wRaise A.C_NoShot) (wNext)) <|
  wSeq (wIfS (wAnd (wT (wOp oNotN (wVar 5) (wC .non))) (wT (wOp (oB0 fun i j => decide (i ≤ j)) (wVar 6) (wVar 5)))) (wRaise A.C_NoShot) (wNext)) <|
  wSet 5 (wFz (wVar 6)))

def w_Run_init (A : Cs) : DS :=
  wSeq (wPutF 0 A.C_Run "table" 0 (wFz (wFld A.C_Machine "table" 0 (wVar 1)))) <|
  wSeq (wPutF 0 A.C_Run "state" 1 (wFz (wOp oIx (wVar 2) (wC (.int 0))))) <|
  wSeq (wPutF 0 A.C_Run "place" 2 (wFz (wOp oIx (wVar 2) (wC (.int 1))))) <|
  wSeq (wPutF 0 A.C_Run "cells" 3 (wDic)) <|
  wFor (wIt (wOp oIx (wVar 2) (wC (.int 2)))) (wgTup 2 (wgCons (wgN 3) (wgCons (wgN 4) (wgNil)))) (wSub (wVar 4) (wFld A.C_Run "cells" 3 (wVar 0)) (wVar 3))

def w_Run_step (A : Cs) : DS :=
  wSeq (wSet 1 (wFz (wOp oIx (wOp oIx (wFld A.C_Run "table" 0 (wVar 0)) (wFld A.C_Run "state" 1 (wVar 0))) (wGet (wFld A.C_Run "cells" 3 (wVar 0)) (wCons (wFld A.C_Run "place" 2 (wVar 0)) (wCons (wC (.int 0)) (wNil))))))) <|
  wSeq (wIfS (wT (wOp oIsN (wVar 1) (wC .non))) (wRet (wC (.bl false))) (wNext)) <|
  wSeq (wIfS (wT (wOp oEq (wOp oIx (wVar 1) (wC (.int 0))) (wC (.int 0)))) (wDrop (wPopD (wFld A.C_Run "cells" 3 (wVar 0)) (wCons (wFld A.C_Run "place" 2 (wVar 0)) (wCons (wC (.int 0)) (wNil))))) (wSub (wOp oIx (wVar 1) (wC (.int 0))) (wFld A.C_Run "cells" 3 (wVar 0)) (wFld A.C_Run "place" 2 (wVar 0)))) <|
  wSeq (wIfS (wT (wOp oEq (wOp oIx (wVar 1) (wC (.int 1))) (wC (.str "r")))) (wPutF 0 A.C_Run "place" 2 (wFz (wOp oAdd (wFld A.C_Run "place" 2 (wVar 0)) (wC (.int 1))))) (wPutF 0 A.C_Run "place" 2 (wFz (wOp (oI0 fun i j => i - j) (wFld A.C_Run "place" 2 (wVar 0)) (wC (.int 1)))))) <|
  wSeq (wPutF 0 A.C_Run "state" 1 (wFz (wOp oIx (wVar 1) (wC (.int 2))))) <|
  wRet (wC (.bl true))

def w_Run_shot (A : Cs) : DS :=
  wSeq (wSet 2 (wFz (wLc (wIt (wCB oSorted (wCons (wCB oList (wCons (wFld A.C_Run "cells" 3 (wVar 0)) (wNil))) (wNil)))) (wgN 1) (wYes) (wTup (wCons (wVar 1) (wCons (wOp oIx (wFld A.C_Run "cells" 3 (wVar 0)) (wVar 1)) (wNil)))) [1] []))) <|
  wRet (wTup (wCons (wFld A.C_Run "state" 1 (wVar 0)) (wCons (wFld A.C_Run "place" 2 (wVar 0)) (wCons (wCB oTuple (wCons (wVar 2) (wNil))) (wNil)))))

def w_ran (A : Cs) : DS :=
  wSeq (wSet 2 (wFz (wC (.int 0)))) <|
  wSeq (wWhile (wAnd (wT (wOp (oB0 fun i j => decide (i < j)) (wVar 2) (wVar 1))) (wT (wMeth A.C_Run "step" [.P (.O [.F, .F, .F, .K])] (W_Run_step A) [] (wVar 0) wNil))) (wAug 2 (oI0 fun i j => i + j) (wC (.int 1)))) <|
  wRet (wVar 2)

def w_after_from (A : Cs) : DS :=
  wSeq (wDrop (wCall [.F, .F] (W_ask_shot A) [] (wCons (wVar 0) (wCons (wVar 1) (wNil))))) <|
  wSeq (wSet 3 (wMake A.C_Run 2 [.F, .F, .F, .K] (W_Run_init A) [] (wCons (wVar 0) (wCons (wVar 1) (wNil))))) <|
  wSeq (wSet 4 (wFz (wCall [.P (.O [.F, .F, .F, .K]), .F] (W_ran A) [] (wCons (wVar 3) (wCons (wVar 2) (wNil)))))) <|
  wRet (wTup (wCons (wMeth A.C_Run "shot" [.P (.O [.F, .F, .F, .K])] (W_Run_shot A) [] (wVar 3) wNil) (wCons (wVar 4) (wNil))))

def w_after (A : Cs) : DS :=
  wRet (wCall [.F, .F, .F] (W_after_from A) [] (wCons (wVar 0) (wCons (wC (.tup [.int 0, .int 0, .tup []])) (wCons (wVar 1) (wNil)))))

def w_stops_at (A : Cs) : DS :=
  wSeq (wSet 2 (wMake A.C_Run 2 [.F, .F, .F, .K] (W_Run_init A) [] (wCons (wVar 0) (wCons (wC (.tup [.int 0, .int 0, .tup []])) (wNil))))) <|
  wSeq (wSet 3 (wFz (wCall [.P (.O [.F, .F, .F, .K]), .F] (W_ran A) [] (wCons (wVar 2) (wCons (wVar 1) (wNil)))))) <|
  wSeq (wIfS (wAnd (wT (wOp (oB0 fun i j => decide (j ≤ i)) (wVar 1) (wC (.int 0)))) (wT (wOp oIsN (wOp oIx (wOp oIx (wFld A.C_Machine "table" 0 (wVar 0)) (wFld A.C_Run "state" 1 (wVar 2))) (wGet (wFld A.C_Run "cells" 3 (wVar 2)) (wCons (wFld A.C_Run "place" 2 (wVar 2)) (wCons (wC (.int 0)) (wNil))))) (wC .non)))) (wRet (wVar 3)) (wNext)) <|
  wRet (wC .non)

end My

namespace My
open PySem PySem.Spec PyProof.Rows L2 VL
def w_is_round (A : Cs) : DS :=
  wSeq (wIfS (wOr (wNot (wT (wIsi "tuple" (wVar 0)))) (wOr (wT (wOp oNeX (wCB oLen (wCons (wVar 0) (wNil))) (wC (.int 3)))) (wT (wOp oNeX (wOp oIx (wVar 0) (wC (.int 0))) (wVar 1))))) (wRet (wC (.bl false))) (wNext)) <|
  wSeq (wFor (wIt (wSl (wVar 0) (wSo (wC (.int 1))) (wNo))) (wgN 2) (wIfS (wOr (wNot (wT (wIsi "int" (wVar 2)))) (wT (wIsi "bool" (wVar 2)))) (wRet (wC (.bl false))) (wNext))) <|
  wRet (wChain (oB0 fun i j => decide (i ≤ j)) (oB0 fun i j => decide (i < j)) (wC (.int 0)) (wOp oIx (wVar 0) (wC (.int 1))) (wOp oIx (wVar 0) (wC (.int 2))))

def w_takes_same (A : Cs) : DS :=
  wSeq (wIfS (wNot (wT (wCall [.F, .F] (W_is_round A) [] (wCons (wVar 1) (wCons (wC (.str "same")) (wNil)))))) (wRet (wC (.bl false))) (wNext)) <|
  wSeq (wAsg (wVar 1) (wgTup 3 (wgCons (wgN 2) (wgCons (wgN 3) (wgCons (wgN 4) (wgNil)))))) <|
  wSeq (wSet 5 (wMake A.C_Run 2 [.F, .F, .F, .K] (W_Run_init A) [] (wCons (wVar 0) (wCons (wC (.tup [.int 0, .int 0, .tup []])) (wNil))))) <|
  wSeq (wIfS (wT (wOp (oB0 fun i j => decide (i < j)) (wCall [.P (.O [.F, .F, .F, .K]), .F] (W_ran A) [] (wCons (wVar 5) (wCons (wVar 3) (wNil)))) (wVar 3))) (wRet (wC (.bl false))) (wNext)) <|
  wSeq (wSet 6 (wFz (wMeth A.C_Run "shot" [.P (.O [.F, .F, .F, .K])] (W_Run_shot A) [] (wVar 5) wNil))) <|
  wRet (wAndV (wOp oEqX (wCall [.P (.O [.F, .F, .F, .K]), .F] (W_ran A) [] (wCons (wVar 5) (wCons (wOp (oI0 fun i j => i - j) (wVar 4) (wVar 3)) (wNil)))) (wOp (oI0 fun i j => i - j) (wVar 4) (wVar 3))) (wOp oEqX (wMeth A.C_Run "shot" [.P (.O [.F, .F, .F, .K])] (W_Run_shot A) [] (wVar 5) wNil) (wVar 6)))

def w__law_next (A : Cs) : DS :=
  wSeq (wSub (wOp oAdd (wOp oIx (wVar 1) (wC (.int 0))) (wC (.int 1))) (wVar 1) (wC (.int 0))) <|
  wSeq (wSet 2 (wFz (wIf (wT (wOp (oB0 fun i j => decide (j < i)) (wCB oLen (wCons (wVar 0) (wNil))) (wC (.int 0)))) (wOp oIx (wVar 0) (wOp (oI (fun _ j => 0 < j) fun i j => i % j) (wOp oIx (wVar 1) (wC (.int 0))) (wCB oLen (wCons (wVar 0) (wNil))))) (wC (.int 0))))) <|
  wSeq (wSet 3 (wFz (wOp (oI (fun _ j => 0 < j) fun i j => i % j) (wOp oMul (wOp oAdd (wOp oAdd (wOp (oI (fun _ j => 0 < j) fun i j => i % j) (wVar 2) (wC (.int 2147483647))) (wOp oMul (wOp oMul (wOp oIx (wVar 1) (wC (.int 0))) (wOp oIx (wVar 1) (wC (.int 0)))) (wC (.int 7919)))) (wC (.int 11))) (wC (.int 48271))) (wC (.int 2147483647))))) <|
  wRet (wOp (oI (fun _ j => 0 < j) fun i j => i % j) (wOp oMul (wVar 3) (wVar 3)) (wC (.int 1999999973)))

def w__law_table (A : Cs) : DS :=
  wSeq (wSet 4 (wEmp (.L .F))) <|
  wSeq (wFor (wRng1 (wCons (wVar 2) (wNil))) (wgN 5) (wSeq (wSet 6 (wLst (wNil))) <|
  wSeq (wFor (wRng1 (wCons (wVar 3) (wNil))) (wgN 7) (wSeq (wSet 8 (wFz (wCall [.F, .P (.L .F)] (W__law_next A) [] (wCons (wVar 0) (wCons (wVar 1) (wNil)))))) <|
  wSeq (wSet 9 (wFz (wTup (wCons (wOp (oI (fun _ j => 0 < j) fun i j => i % j) (wOp (oI CDiv fun i j => i / j) (wVar 8) (wC (.int 9))) (wVar 3)) (wCons (wOp oIx (wC (.str "lr")) (wOp (oI (fun _ j => 0 < j) fun i j => i % j) (wOp (oI CDiv fun i j => i / j) (wVar 8) (wC (.int 100))) (wC (.int 2)))) (wCons (wOp (oI (fun _ j => 0 < j) fun i j => i % j) (wOp (oI CDiv fun i j => i / j) (wVar 8) (wC (.int 300))) (wVar 2)) (wNil))))))) <|
  wSeq (wIfS (wT (wOp oEq (wOp (oI (fun _ j => 0 < j) fun i j => i % j) (wVar 8) (wC (.int 9))) (wC (.int 0)))) (wSet 9 (wFz (wC .non))) (wNext)) <|
  wDrop (wMut mApp (wVar 6) (wCons (wVar 9) (wNil))))) <|
  wDrop (wApp (wVar 4) (wMov 6)))) <|
  wRet (wMov 4)

def w__law_step (A : Cs) : DS :=
  wSeq (wAsg (wVar 1) (wgTup 3 (wgCons (wgN 2) (wgCons (wgN 3) (wgCons (wgN 4) (wgNil)))))) <|
  wSeq (wSet 5 (wFz (wOp oIx (wOp oIx (wVar 0) (wVar 2)) (wGet (wVar 4) (wCons (wVar 3) (wCons (wC (.int 0)) (wNil))))))) <|
  wSeq (wIfS (wT (wOp oIsN (wVar 5) (wC .non))) (wRet (wC .non)) (wNext)) <|
  wSeq (wSet 6 (wCB oDict (wCons (wVar 4) (wNil)))) <|
  wSeq (wSub (wOp oIx (wVar 5) (wC (.int 0))) (wVar 6) (wVar 3)) <|
  wSeq (wIfS (wT (wOp oEq (wOp oIx (wVar 5) (wC (.int 0))) (wC (.int 0)))) (wDrop (wPopD (wVar 6) (wCons (wVar 3) (wNil)))) (wNext)) <|
  wSeq (wIfS (wT (wOp oEq (wOp oIx (wVar 5) (wC (.int 1))) (wC (.str "r")))) (wRet (wTup (wCons (wOp oIx (wVar 5) (wC (.int 2))) (wCons (wOp oAdd (wVar 3) (wC (.int 1))) (wCons (wFrz 6) (wNil)))))) (wNext)) <|
  wRet (wTup (wCons (wOp oIx (wVar 5) (wC (.int 2))) (wCons (wOp (oI0 fun i j => i - j) (wVar 3) (wC (.int 1))) (wCons (wFrz 6) (wNil)))))

def w__law_run (A : Cs) : DS :=
  wSeq (wSet 3 (wLst (wCons (wVar 1) (wNil)))) <|
  wSeq (wWhile (wT (wOp (oB0 fun i j => decide (i ≤ j)) (wCB oLen (wCons (wVar 3) (wNil))) (wVar 2))) (wSeq (wSet 1 (wFz (wCall [.F, .F] (W__law_step A) [] (wCons (wVar 0) (wCons (wVar 1) (wNil)))))) <|
  wSeq (wIfS (wT (wOp oIsN (wVar 1) (wC .non))) (wRet (wMov 3)) (wNext)) <|
  wDrop (wMut mApp (wVar 3) (wCons (wVar 1) (wNil))))) <|
  wRet (wMov 3)

def w__law_shot (A : Cs) : DS :=
  wSeq (wAsg (wVar 0) (wgTup 3 (wgCons (wgN 1) (wgCons (wgN 2) (wgCons (wgN 3) (wgNil)))))) <|
  wRet (wTup (wCons (wVar 1) (wCons (wVar 2) (wCons (wCB oTuple (wCons (wLc (wIt (wCB oSorted (wCons (wCB oList (wCons (wVar 3) (wNil))) (wNil)))) (wgN 4) (wYes) (wTup (wCons (wVar 4) (wCons (wOp oIx (wVar 3) (wVar 4)) (wNil)))) [4] []) (wNil))) (wNil)))))

def w__law_machine_by (A : Cs) : DS :=
  wSeq (wSet 2 (wFz (wCall [.F, .P (.L .F)] (W__law_next A) [] (wCons (wVar 0) (wCons (wVar 1) (wNil)))))) <|
  wSeq (wSet 3 (wFz (wOp oIx (wLst (wCons (wC (.int 1)) (wCons (wC (.int 2)) (wCons (wC (.int 2)) (wCons (wC (.int 3)) (wCons (wC (.int 3)) (wCons (wC (.int 4)) (wNil)))))))) (wOp (oI (fun _ j => 0 < j) fun i j => i % j) (wVar 2) (wC (.int 6)))))) <|
  wSeq (wSet 4 (wFz (wOp oIx (wLst (wCons (wC (.int 2)) (wCons (wC (.int 2)) (wCons (wC (.int 3)) (wCons (wC (.int 2)) (wCons (wC (.int 4)) (wCons (wC (.int 1)) (wNil)))))))) (wOp (oI (fun _ j => 0 < j) fun i j => i % j) (wOp (oI CDiv fun i j => i / j) (wVar 2) (wC (.int 6))) (wC (.int 6)))))) <|
  wSeq (wIfS (wT (wOp oEq (wOp (oI (fun _ j => 0 < j) fun i j => i % j) (wOp (oI CDiv fun i j => i / j) (wVar 2) (wC (.int 36))) (wC (.int 13))) (wC (.int 0)))) (wAsg (wTup (wCons (wC (.int 5)) (wCons (wC (.int 8)) (wNil)))) (wgTup 2 (wgCons (wgN 3) (wgCons (wgN 4) (wgNil))))) (wNext)) <|
  wSeq (wSet 5 (wCall [.F, .P (.L .F), .F, .F] (W__law_table A) [] (wCons (wVar 0) (wCons (wVar 1) (wCons (wVar 3) (wCons (wVar 4) (wNil))))))) <|
  wSeq (wFor (wRng1 (wCons (wVar 3) (wNil))) (wgN 6) (wFor (wRng1 (wCons (wVar 4) (wNil))) (wgN 7) (wSeq (wSet 2 (wFz (wCall [.F, .P (.L .F)] (W__law_next A) [] (wCons (wVar 0) (wCons (wVar 1) (wNil)))))) <|
  wSeq (wIfS (wAnd (wT (wOp oEq (wOp (oI (fun _ j => 0 < j) fun i j => i % j) (wVar 2) (wC (.int 3))) (wC (.int 0)))) (wT (wOp oNotN (wOp oIx (wOp oIx (wVar 5) (wVar 6)) (wVar 7)) (wC .non)))) (wSub (wTup (wCons (wOp oIx (wOp oIx (wOp oIx (wVar 5) (wVar 6)) (wVar 7)) (wC (.int 0))) (wCons (wOp oIx (wOp oIx (wOp oIx (wVar 5) (wVar 6)) (wVar 7)) (wC (.int 1))) (wCons (wVar 6) (wNil))))) (wOp oIx (wVar 5) (wVar 6)) (wVar 7)) (wNext)) <|
  wIfS (wAnd (wT (wOp (oB0 fun i j => decide (j < i)) (wOp (oI (fun _ j => 0 < j) fun i j => i % j) (wOp (oI CDiv fun i j => i / j) (wVar 2) (wC (.int 3))) (wC (.int 7))) (wC (.int 1)))) (wT (wOp oIsN (wOp oIx (wOp oIx (wVar 5) (wVar 6)) (wVar 7)) (wC .non)))) (wSub (wTup (wCons (wOp (oI (fun _ j => 0 < j) fun i j => i % j) (wOp (oI CDiv fun i j => i / j) (wVar 2) (wC (.int 30))) (wVar 4)) (wCons (wOp oIx (wC (.str "lr")) (wOp (oI (fun _ j => 0 < j) fun i j => i % j) (wOp (oI CDiv fun i j => i / j) (wVar 2) (wC (.int 300))) (wC (.int 2)))) (wCons (wOp (oI (fun _ j => 0 < j) fun i j => i % j) (wOp (oI CDiv fun i j => i / j) (wVar 2) (wC (.int 600))) (wVar 3)) (wNil))))) (wOp oIx (wVar 5) (wVar 6)) (wVar 7)) (wNext)))) <|
  wRet (wMov 5)

end My

namespace My
open PySem PySem.Spec PyProof.Rows L2 VL
def w_cells_from (A : Cs) : DS :=
  wSeq (wAsg (wVar 0) (wgTup 3 (wgCons (wgN 3) (wgCons (wgN 4) (wgCons (wgN 5) (wgNil)))))) <|
  wRet (wLc (wIt (wVar 5)) (wgTup 2 (wgCons (wgN 6) (wgCons (wgN 7) (wgNil)))) (wT (wOp (oB0 fun i j => decide (j ≤ i)) (wOp oMul (wOp (oI0 fun i j => i - j) (wOp (oI0 fun i j => i - j) (wVar 6) (wVar 4)) (wVar 1)) (wVar 2)) (wC (.int 0)))) (wTup (wCons (wOp (oI0 fun i j => i - j) (wVar 6) (wVar 4)) (wCons (wVar 7) (wNil)))) [6, 7] [])

def w_is_shifted (A : Cs) : DS :=
  wSeq (wIfS (wOr (wT (wOp oNeX (wOp oIx (wVar 0) (wC (.int 0))) (wOp oIx (wVar 1) (wC (.int 0))))) (wT (wOp oEqX (wOp oIx (wVar 0) (wC (.int 1))) (wOp oIx (wVar 1) (wC (.int 1)))))) (wRet (wC (.bl false))) (wNext)) <|
  wSeq (wIfS (wT (wOp (oB0 fun i j => decide (i < j)) (wOp oIx (wVar 0) (wC (.int 1))) (wOp oIx (wVar 1) (wC (.int 1))))) (wRet (wOp oEqX (wCall [.F, .F, .F] (W_cells_from A) [] (wCons (wVar 0) (wCons (wUn oNeg (wVar 2)) (wCons (wC (.int 1)) (wNil))))) (wCall [.F, .F, .F] (W_cells_from A) [] (wCons (wVar 1) (wCons (wUn oNeg (wVar 2)) (wCons (wC (.int 1)) (wNil))))))) (wNext)) <|
  wRet (wOp oEqX (wCall [.F, .F, .F] (W_cells_from A) [] (wCons (wVar 0) (wCons (wVar 3) (wCons (wUn oNeg (wC (.int 1))) (wNil))))) (wCall [.F, .F, .F] (W_cells_from A) [] (wCons (wVar 1) (wCons (wVar 3) (wCons (wUn oNeg (wC (.int 1))) (wNil))))))

def w_takes_shifted (A : Cs) : DS :=
  wSeq (wIfS (wNot (wT (wCall [.F, .F] (W_is_round A) [] (wCons (wVar 1) (wCons (wC (.str "shifted")) (wNil)))))) (wRet (wC (.bl false))) (wNext)) <|
  wSeq (wAsg (wVar 1) (wgTup 3 (wgCons (wgN 2) (wgCons (wgN 3) (wgCons (wgN 4) (wgNil)))))) <|
  wSeq (wSet 5 (wMake A.C_Run 2 [.F, .F, .F, .K] (W_Run_init A) [] (wCons (wVar 0) (wCons (wC (.tup [.int 0, .int 0, .tup []])) (wNil))))) <|
  wSeq (wIfS (wT (wOp (oB0 fun i j => decide (i < j)) (wCall [.P (.O [.F, .F, .F, .K]), .F] (W_ran A) [] (wCons (wVar 5) (wCons (wVar 3) (wNil)))) (wVar 3))) (wRet (wC (.bl false))) (wNext)) <|
  wSeq (wSet 6 (wFz (wMeth A.C_Run "shot" [.P (.O [.F, .F, .F, .K])] (W_Run_shot A) [] (wVar 5) wNil))) <|
  wSeq (wSet 7 (wFz (wC (.int 0)))) <|
  wSeq (wSet 8 (wFz (wC (.int 0)))) <|
  wSeq (wFor (wRng1 (wCons (wOp (oI0 fun i j => i - j) (wVar 4) (wVar 3)) (wNil))) (wgN 9) (wSeq (wIfS (wNot (wT (wMeth A.C_Run "step" [.P (.O [.F, .F, .F, .K])] (W_Run_step A) [] (wVar 5) wNil))) (wRet (wC (.bl false))) (wNext)) <|
  wSeq (wSet 7 (wFz (wCB oMax2 (wCons (wVar 7) (wCons (wOp (oI0 fun i j => i - j) (wOp oIx (wVar 6) (wC (.int 1))) (wFld A.C_Run "place" 2 (wVar 5))) (wNil)))))) <|
  wSet 8 (wFz (wCB oMax2 (wCons (wVar 8) (wCons (wOp (oI0 fun i j => i - j) (wFld A.C_Run "place" 2 (wVar 5)) (wOp oIx (wVar 6) (wC (.int 1)))) (wNil))))))) <|
  wRet (wCall [.F, .F, .F, .F] (W_is_shifted A) [] (wCons (wVar 6) (wCons (wMeth A.C_Run "shot" [.P (.O [.F, .F, .F, .K])] (W_Run_shot A) [] (wVar 5) wNil) (wCons (wVar 7) (wCons (wVar 8) (wNil))))))

end My

namespace My
open PySem PySem.Spec PyProof.Rows L2 VL
def w_trail (A : Cs) : DS :=
  wSeq (wSet 2 (wMake A.C_Run 2 [.F, .F, .F, .K] (W_Run_init A) [] (wCons (wVar 0) (wCons (wC (.tup [.int 0, .int 0, .tup []])) (wNil))))) <|
  wSeq (wSet 3 (wLst (wCons (wMeth A.C_Run "shot" [.P (.O [.F, .F, .F, .K])] (W_Run_shot A) [] (wVar 2) wNil) (wNil)))) <|
  wSeq (wSet 4 (wFz (wC (.int 0)))) <|
  wSeq (wWhile (wAnd (wT (wOp (oB0 fun i j => decide (i < j)) (wVar 4) (wVar 1))) (wT (wMeth A.C_Run "step" [.P (.O [.F, .F, .F, .K])] (W_Run_step A) [] (wVar 2) wNil))) (wSeq (wDrop (wMut mApp (wVar 3) (wCons (wMeth A.C_Run "shot" [.P (.O [.F, .F, .F, .K])] (W_Run_shot A) [] (wVar 2) wNil) (wNil)))) <|
  wAug 4 (oI0 fun i j => i + j) (wC (.int 1)))) <|
  wRet (wMov 3)

def w_same_of (A : Cs) : DS :=
  wSeq (wSet 2 (wDicN)) <|
  wSeq (wFor (wEnum (wCons (wCall [.F, .F] (W_trail A) [] (wCons (wVar 0) (wCons (wVar 1) (wNil)))) (wNil))) (wgTup 2 (wgCons (wgN 3) (wgCons (wgN 4) (wgNil)))) (wSeq (wIfS (wT (wOp oInX (wVar 4) (wVar 2))) (wRet (wTup (wCons (wC (.str "same")) (wCons (wOp oIxX (wVar 2) (wVar 4)) (wCons (wVar 3) (wNil)))))) (wNext)) <|
  wSubN (wVar 3) (wVar 2) (wVar 4))) <|
  wRet (wC .non)

def w_first_shifted (A : Cs) : DS :=
  wSeq (wSet 2 (wFz (wC .non))) <|
  wSeq (wSet 3 (wFz (wOp oIx (wOp oIx (wVar 0) (wVar 1)) (wC (.int 1))))) <|
  wSeq (wSet 4 (wFz (wVar 3))) <|
  wSeq (wFor (wRevRng (wVar 1)) (wgN 5) (wSeq (wSet 6 (wFz (wOp oIx (wOp oIx (wVar 0) (wVar 5)) (wC (.int 1))))) <|
  wSeq (wSet 3 (wFz (wCB oMin2 (wCons (wVar 3) (wCons (wVar 6) (wNil)))))) <|
  wSeq (wSet 4 (wFz (wCB oMax2 (wCons (wVar 4) (wCons (wVar 6) (wNil)))))) <|
  wIfS (wT (wCall [.F, .F, .F, .F] (W_is_shifted A) [] (wCons (wOp oIx (wVar 0) (wVar 5)) (wCons (wOp oIx (wVar 0) (wVar 1)) (wCons (wOp (oI0 fun i j => i - j) (wVar 6) (wVar 3)) (wCons (wOp (oI0 fun i j => i - j) (wVar 4) (wVar 6)) (wNil))))))) (wSet 2 (wFz (wVar 5))) (wNext))) <|
  wRet (wVar 2)

def w_shifted_of (A : Cs) : DS :=
  wSeq (wSet 2 (wFz (wCall [.F, .F] (W_trail A) [] (wCons (wVar 0) (wCons (wVar 1) (wNil)))))) <|
  wSeq (wFor (wRng2 (wCons (wC (.int 1)) (wCons (wCB oLen (wCons (wVar 2) (wNil))) (wNil)))) (wgN 3) (wSeq (wSet 4 (wFz (wCall [.F, .F] (W_first_shifted A) [] (wCons (wVar 2) (wCons (wVar 3) (wNil)))))) <|
  wIfS (wT (wOp oNotN (wVar 4) (wC .non))) (wRet (wTup (wCons (wC (.str "shifted")) (wCons (wVar 4) (wCons (wVar 3) (wNil)))))) (wNext))) <|
  wRet (wC .non)

def w__law_same (A : Cs) (n : Nat) : DS :=
  wSeq (wIfS (wOr (wT (wIsi "list" (wVar 1))) (wT (wIsi "tuple" (wVar 1)))) (wSeq (wIfS (wOr (wT (wOp oNe (wIsi "list" (wVar 0)) (wIsi "list" (wVar 1)))) (wT (wOp oNe (wIsi "tuple" (wVar 0)) (wIsi "tuple" (wVar 1))))) (wRet (wC (.bl false))) (wNext)) <|
  wRet (wAndV (wOp oEq (wCB oLen (wCons (wVar 0) (wNil))) (wCB oLen (wCons (wVar 1) (wNil)))) (wCB oAll (wCons (wLc (wZip (wCons (wVar 0) (wCons (wVar 1) (wNil)))) (wgTup 2 (wgCons (wgN 2) (wgCons (wgN 3) (wgNil)))) (wYes) (wCall [.F, .F] (W__law_same A n) [] (wCons (wVar 2) (wCons (wVar 3) (wNil)))) [2, 3] []) (wNil))))) (wNext)) <|
  wSeq (wIfS (wT (wOp oIsN (wVar 1) (wC .non))) (wRet (wOp oIsN (wVar 0) (wC .non))) (wNext)) <|
  wSeq (wIfS (wT (wIsi "str" (wVar 1))) (wRet (wAndV (wIsi "str" (wVar 0)) (wOp oEq (wVar 0) (wVar 1)))) (wNext)) <|
  wRet (wAndV (wIsi "int" (wVar 0)) (wAndV (wNotV (wIsi "bool" (wVar 0))) (wOp oEq (wVar 0) (wVar 1))))

end My

namespace My
open PySem PySem.Spec PyProof.Rows L2 VL
def w_shown (A : Cs) : DS :=
  wSeq (wSet 3 (wFz (wCall [.F, .F] (W_stops_at A) [] (wCons (wVar 0) (wCons (wVar 1) (wNil)))))) <|
  wSeq (wIfS (wT (wOp oNotN (wVar 3) (wC .non))) (wRet (wTup (wCons (wC (.str "stops")) (wCons (wVar 3) (wNil))))) (wNext)) <|
  wSeq (wSet 4 (wFz (wCall [.F, .F] (W_same_of A) [] (wCons (wVar 0) (wCons (wVar 1) (wNil)))))) <|
  wSeq (wIfS (wT (wOp oIsN (wVar 4) (wC .non))) (wSet 4 (wFz (wCall [.F, .F] (W_shifted_of A) [] (wCons (wVar 0) (wCons (wVar 1) (wNil)))))) (wNext)) <|
  wSeq (wIfS (wT (wOp oIsN (wVar 4) (wC .non))) (wSet 4 (wFz (wCall [.F, .F] (W_first_wall A) [] (wCons (wVar 0) (wCons (wVar 2) (wNil)))))) (wNext)) <|
  wSeq (wIfS (wT (wOp oIsN (wVar 4) (wC .non))) (wRet (wTup (wCons (wC (.str "open")) (wCons (wC .non) (wNil))))) (wNext)) <|
  wRet (wTup (wCons (wC (.str "never")) (wCons (wVar 4) (wNil))))

def w_takes (A : Cs) : DS :=
  wSeq (wIfS (wOr (wNot (wT (wIsi "tuple" (wVar 1)))) (wT (wOp oEq (wCB oLen (wCons (wVar 1) (wNil))) (wC (.int 0))))) (wRet (wC (.bl false))) (wNext)) <|
  wSeq (wIfS (wT (wOp oEq (wOp oIx (wVar 1) (wC (.int 0))) (wC (.str "same")))) (wRet (wCall [.F, .F] (W_takes_same A) [] (wCons (wVar 0) (wCons (wVar 1) (wNil))))) (wNext)) <|
  wSeq (wIfS (wT (wOp oEq (wOp oIx (wVar 1) (wC (.int 0))) (wC (.str "shifted")))) (wRet (wCall [.F, .F] (W_takes_shifted A) [] (wCons (wVar 0) (wCons (wVar 1) (wNil))))) (wNext)) <|
  wSeq (wIfS (wT (wOp oEq (wOp oIx (wVar 1) (wC (.int 0))) (wC (.str "grow")))) (wNever) (wNext)) <|
  wSeq (wIfS (wT (wOp oEq (wOp oIx (wVar 1) (wC (.int 0))) (wC (.str "wall")))) (wRet (wCall [.F, .F] (W_wall_taken A) [] (wCons (wVar 0) (wCons (wVar 1) (wNil))))) (wNext)) <|
  wRet (wC (.bl false))

end My

namespace My
open PySem PySem.Spec PyProof.Rows L2 VL
def w_value_of (A : Cs) : DS :=
  wSeq (wIfS (wT (wOp oIsN (wVar 0) (wC .non))) (wRet (wC (.int 0))) (wNext)) <|
  wSeq (wSet 2 (wFz (wC (.int 0)))) <|
  wSeq (wIfS (wT (wOp oEq (wOp oIx (wVar 0) (wC (.int 1))) (wC (.str "r")))) (wSet 2 (wFz (wC (.int 1)))) (wNext)) <|
  wRet (wOp oAdd (wOp oAdd (wC (.int 1)) (wOp oMul (wOp oAdd (wOp oMul (wOp oIx (wVar 0) (wC (.int 0))) (wC (.int 2))) (wVar 2)) (wVar 1))) (wOp oIx (wVar 0) (wC (.int 2))))

def w_entry_of (A : Cs) : DS :=
  wSeq (wIfS (wT (wOp oEq (wVar 0) (wC (.int 0)))) (wRet (wC .non)) (wNext)) <|
  wSeq (wAsg (wCB oDivmod (wCons (wOp (oI0 fun i j => i - j) (wVar 0) (wC (.int 1))) (wCons (wVar 1) (wNil)))) (wgTup 2 (wgCons (wgN 2) (wgCons (wgN 3) (wgNil))))) <|
  wSeq (wAsg (wCB oDivmod (wCons (wVar 2) (wCons (wC (.int 2)) (wNil)))) (wgTup 2 (wgCons (wgN 4) (wgCons (wgN 5) (wgNil))))) <|
  wSeq (wIfS (wT (wOp oEq (wVar 5) (wC (.int 0)))) (wRet (wTup (wCons (wVar 4) (wCons (wC (.str "l")) (wCons (wVar 3) (wNil)))))) (wNext)) <|
  wRet (wTup (wCons (wVar 4) (wCons (wC (.str "r")) (wCons (wVar 3) (wNil)))))

def w_machine_of (A : Cs) : DS :=
  wSeq (wIfS (wOr (wT (wOp (oB0 fun i j => decide (i < j)) (wVar 0) (wC (.int 1)))) (wOr (wT (wOp (oB0 fun i j => decide (i < j)) (wVar 1) (wC (.int 1)))) (wT (wOp (oB0 fun i j => decide (i < j)) (wVar 2) (wC (.int 0)))))) (wRaise A.C_NoNumber) (wNext)) <|
  wSeq (wSet 3 (wFz (wOp oAdd (wOp oMul (wOp oMul (wC (.int 2)) (wVar 0)) (wVar 1)) (wC (.int 1))))) <|
  wSeq (wSet 4 (wLst (wNil))) <|
  wSeq (wFor (wRng1 (wCons (wVar 0) (wNil))) (wgN 5) (wSeq (wSet 6 (wLst (wNil))) <|
  wSeq (wFor (wRng1 (wCons (wVar 1) (wNil))) (wgN 7) (wSeq (wAsg (wCB oDivmod (wCons (wVar 2) (wCons (wVar 3) (wNil)))) (wgTup 2 (wgCons (wgN 2) (wgCons (wgN 8) (wgNil))))) <|
  wDrop (wMut mApp (wVar 6) (wCons (wCall [.F, .F] (W_entry_of A) [] (wCons (wVar 8) (wCons (wVar 0) (wNil)))) (wNil))))) <|
  wDrop (wMut mApp (wVar 4) (wCons (wFrz 6) (wNil))))) <|
  wSeq (wIfS (wT (wOp (oB0 fun i j => decide (j < i)) (wVar 2) (wC (.int 0)))) (wRaise A.C_NoNumber) (wNext)) <|
  wRet (wMake A.C_Machine 1 [.F] (W_Machine_init A) [] (wCons (wFrz 4) (wNil)))

def w_number_of (A : Cs) : DS :=
  wSeq (wSet 1 (wFz (wCall [.F] (W_states_of A) [] (wCons (wVar 0) (wNil))))) <|
  wSeq (wSet 2 (wFz (wOp oAdd (wOp oMul (wOp oMul (wC (.int 2)) (wVar 1)) (wCall [.F] (W_signs_of A) [] (wCons (wVar 0) (wNil)))) (wC (.int 1))))) <|
  wSeq (wSet 3 (wFz (wC (.int 0)))) <|
  wSeq (wFor (wRev (wFld A.C_Machine "table" 0 (wVar 0))) (wgN 4) (wFor (wRev (wVar 4)) (wgN 5) (wSet 3 (wFz (wOp oAdd (wOp oMul (wVar 3) (wVar 2)) (wCall [.F, .F] (W_value_of A) [] (wCons (wVar 5) (wCons (wVar 1) (wNil))))))))) <|
  wRet (wVar 3)

end My

namespace My
open PySem PySem.Spec PyProof.Rows L2 VL
def w__law_nextR (A : Cs) : DS :=
  wSeq (wSub (wOp oAdd (wOp oIx (wVar 1) (wC (.int 0))) (wC (.int 1))) (wVar 1) (wC (.int 0))) <|
  wSeq (wSet 2 (wFz (wC (.int 0)))) <|
  wSeq (wIfS (wT (wOp (oB0 fun i j => decide (j < i)) (wCB oLen (wCons (wVar 0) (wNil))) (wC (.int 0)))) (wSet 2 (wFz (wOp oIx (wVar 0) (wOp (oI (fun _ j => 0 < j) fun i j => i % j) (wOp oIx (wVar 1) (wC (.int 0))) (wCB oLen (wCons (wVar 0) (wNil))))))) (wNext)) <|
  wSeq (wSet 3 (wFz (wOp (oI (fun _ j => 0 < j) fun i j => i % j) (wOp oMul (wOp oAdd (wOp oAdd (wOp (oI (fun _ j => 0 < j) fun i j => i % j) (wVar 2) (wC (.int 2147483647))) (wOp oMul (wOp oMul (wOp oIx (wVar 1) (wC (.int 0))) (wOp oIx (wVar 1) (wC (.int 0)))) (wC (.int 7919)))) (wC (.int 11))) (wC (.int 48271))) (wC (.int 2147483647))))) <|
  wRet (wOp (oI (fun _ j => 0 < j) fun i j => i % j) (wOp oMul (wVar 3) (wVar 3)) (wC (.int 1999999973)))

def w__law_tableR (A : Cs) : DS :=
  wSeq (wSet 4 (wLst (wNil))) <|
  wSeq (wFor (wRng1 (wCons (wVar 2) (wNil))) (wgN 5) (wSeq (wSet 6 (wLst (wNil))) <|
  wSeq (wFor (wRng1 (wCons (wVar 3) (wNil))) (wgN 7) (wSeq (wSet 8 (wFz (wCall [.F, .P (.L .F)] (W__law_nextR A) [] (wCons (wVar 0) (wCons (wVar 1) (wNil)))))) <|
  wSeq (wSet 9 (wFz (wTup (wCons (wOp (oI (fun _ j => 0 < j) fun i j => i % j) (wOp (oI CDiv fun i j => i / j) (wVar 8) (wC (.int 9))) (wVar 3)) (wCons (wOp oIx (wC (.str "lr")) (wOp (oI (fun _ j => 0 < j) fun i j => i % j) (wOp (oI CDiv fun i j => i / j) (wVar 8) (wC (.int 100))) (wC (.int 2)))) (wCons (wOp (oI (fun _ j => 0 < j) fun i j => i % j) (wOp (oI CDiv fun i j => i / j) (wVar 8) (wC (.int 300))) (wVar 2)) (wNil))))))) <|
  wSeq (wIfS (wT (wOp oEq (wOp (oI (fun _ j => 0 < j) fun i j => i % j) (wVar 8) (wC (.int 9))) (wC (.int 0)))) (wSet 9 (wFz (wC .non))) (wNext)) <|
  wDrop (wMut mApp (wVar 6) (wCons (wVar 9) (wNil))))) <|
  wDrop (wMut mApp (wVar 4) (wCons (wFrz 6) (wNil))))) <|
  wRet (wMov 4)

def w__law_sameD (A : Cs) (n : Nat) : DS :=
  wSeq (wIfS (wT (wIsi "dict" (wVar 1))) (wNever) (wNext)) <|
  wSeq (wIfS (wOr (wT (wIsi "list" (wVar 1))) (wT (wIsi "tuple" (wVar 1)))) (wSeq (wIfS (wOr (wT (wOp oNe (wIsi "list" (wVar 0)) (wIsi "list" (wVar 1)))) (wT (wOp oNe (wIsi "tuple" (wVar 0)) (wIsi "tuple" (wVar 1))))) (wRet (wC (.bl false))) (wNext)) <|
  wRet (wAndV (wOp oEq (wCB oLen (wCons (wVar 0) (wNil))) (wCB oLen (wCons (wVar 1) (wNil)))) (wCB oAll (wCons (wLc (wZip (wCons (wVar 0) (wCons (wVar 1) (wNil)))) (wgTup 2 (wgCons (wgN 3) (wgCons (wgN 4) (wgNil)))) (wYes) (wCall [.F, .F] (W__law_sameD A n) [] (wCons (wVar 3) (wCons (wVar 4) (wNil)))) [3, 4] []) (wNil))))) (wNext)) <|
  wSeq (wIfS (wT (wIsi "str" (wVar 1))) (wRet (wAndV (wIsi "str" (wVar 0)) (wOp oEq (wVar 0) (wVar 1)))) (wNext)) <|
  wRet (wAndV (wIsi "int" (wVar 0)) (wAndV (wNotV (wIsi "bool" (wVar 0))) (wOp oEq (wVar 0) (wVar 1))))

def w__law_sameE (A : Cs) (n : Nat) : DS :=
  wSeq (wIfS (wT (wIsi "dict" (wVar 1))) (wNever) (wNext)) <|
  wSeq (wIfS (wOr (wT (wIsi "list" (wVar 1))) (wT (wIsi "tuple" (wVar 1)))) (wSeq (wIfS (wAnd (wT (wIsi "list" (wVar 1))) (wNot (wT (wIsi "list" (wVar 0))))) (wRet (wC (.bl false))) (wNext)) <|
  wSeq (wIfS (wOr (wAnd (wT (wIsi "tuple" (wVar 1))) (wNot (wT (wIsi "tuple" (wVar 0))))) (wT (wOp oNe (wCB oLen (wCons (wVar 0) (wNil))) (wCB oLen (wCons (wVar 1) (wNil)))))) (wRet (wC (.bl false))) (wNext)) <|
  wRet (wCB oAll (wCons (wLc (wZip (wCons (wVar 0) (wCons (wVar 1) (wNil)))) (wgTup 2 (wgCons (wgN 3) (wgCons (wgN 4) (wgNil)))) (wYes) (wCall [.F, .F] (W__law_sameE A n) [] (wCons (wVar 3) (wCons (wVar 4) (wNil)))) [3, 4] []) (wNil)))) (wNext)) <|
  wSeq (wIfS (wT (wIsi "str" (wVar 1))) (wRet (wAndV (wIsi "str" (wVar 0)) (wOp oEq (wVar 0) (wVar 1)))) (wNext)) <|
  wRet (wAndV (wIsi "int" (wVar 0)) (wAndV (wNotV (wIsi "bool" (wVar 0))) (wOp oEq (wVar 0) (wVar 1))))

end My

/-! in a list of any data; a list's slice with a step -/
namespace VL
open PySem PySem.Spec PyProof.Rows L2
section
variable {K : PySem.W.Frag} {W : WX} {G G' H H' : Hp} {σ : L2.St} {X : Cx} {ρ : Rho} {S S0 T : Sta}
def deepK (x : D) (y : D) (q : Bool → Prop) : Prop := match y with
  | .lst ds => (pdK 60 x = true ∧ pdK 60 (.lst ds) = true) ∧ q (ds.any fun z => eqX z x)
  | _ => False
def oInE : O2 := fun x y q => deepK x.2 y.2 fun b => q (.fz, .bl b)
def oNotInE : O2 := fun x y q => deepK x.2 y.2 fun b => q (.fz, .bl (!b))
@[simp ↓] theorem oInE_eq {x : Kd × D} {k : Kd} {ds : List D} {q : Kd × D → Prop} : oInE x (k, .lst ds) q = ((pdK 60 x.2 = true ∧ pdK 60 (.lst ds) = true) ∧ q (.fz, .bl (ds.any fun z => eqX z x.2))) := rfl
@[simp ↓] theorem oNotInE_eq {x : Kd × D} {k : Kd} {ds : List D} {q : Kd × D → Prop} : oNotInE x (k, .lst ds) q = ((pdK 60 x.2 = true ∧ pdK 60 (.lst ds) = true) ∧ q (.fz, .bl (!ds.any fun z => eqX z x.2))) := rfl
/-! slices with a step -/
def pickS {α : Type} (xs : List α) (lo hi st : Option Int) : List α := (sliceRange (sliceBounds lo hi st xs.length).1 (sliceBounds lo hi st xs.length).2.1 (sliceBounds lo hi st xs.length).2.2).filterMap (xs[·]?)
def rSlS (K : PySem.W.Frag) : V → Option Int → Option Int → Option Int → Hp → VK → Prop := fun x lo hi st H Q => ∃ a xs, x = .ref a ∧ SqL K H a xs ∧ st ≠ some 0 ∧ (pickS xs lo hi st).length ≤ sizeLine ∧ ∀ p, H p = none → Q (.ref p) (upd H p (.lst (pickS xs lo hi st)))
def SlRS (X : Cx) (r : V → Option Int → Option Int → Option Int → Hp → VK → Prop) : Prop :=
  ∀ (pins : List (Addr × Obj)) (s : Shared) (σ : L2.St) (H : Hp) (x : V) (v vl vu vs : Value) (lo hi st : Option Int) (sl : Addr) (Q : VK), Inv X pins σ H s → RelV x v → s.heap.IsSliceOf sl vl vu vs → IsPart vl lo → IsPart vu hi → IsPart vs st → r x lo hi st H Q →
    ∃ T id, typeLookup (.type T) "__getitem__" = pure (some (.builtin id)) ∧ s.TypeIs v T ∧ wpAny (model X.prog X.w) X.A (getItem v (.ref sl)) (EP X pins σ Q) X.xe s
def tSlS (r : V → Option Int → Option Int → Option Int → Hp → VK → Prop) (te : TE) (tl th ts : TO) : TE := fun σ H Q => te σ H fun x H1 => tl σ H1 fun l H2 => th σ H2 fun u H3 => ts σ H3 fun k H4 => r x l u k H4 Q
def oSlS (x : Kd × D) (lo hi st : Option Int) (q : Kd × D → Prop) : Prop := match x.2 with
  | .scr ns => (st ≠ some 0 ∧ (pickS ns lo hi st).length ≤ sizeLine) ∧ q (.new (.L .F), .lst ((pickS ns lo hi st).map .int))
  | _ => False
def wSlS (we : DE (Kd × D)) (wl wh ws : DE (Option Int)) : DE (Kd × D) := fun ρ P => we ρ ⟨fun p1 x ρ1 => wl ρ1 ⟨fun p2 lo ρ2 => wh ρ2 ⟨fun p3 hi ρ3 => ws ρ3 ⟨fun p4 st ρ4 => hold x.1 (p2 ++ (p3 ++ p4)) = true ∧ oSlS x lo hi st fun z => P.ok (p1 ++ (p2 ++ (p3 ++ p4))) z ρ4, P.ex⟩, P.ex⟩, P.ex⟩, P.ex⟩
@[simp ↓] theorem wSlS_eq {we : DE (Kd × D)} {wl wh ws : DE (Option Int)} {P : Po (Kd × D)} : wSlS we wl wh ws ρ P = we ρ ⟨fun p1 x ρ1 => wl ρ1 ⟨fun p2 lo ρ2 => wh ρ2 ⟨fun p3 hi ρ3 => ws ρ3 ⟨fun p4 st ρ4 => hold x.1 (p2 ++ (p3 ++ p4)) = true ∧ oSlS x lo hi st fun z => P.ok (p1 ++ (p2 ++ (p3 ++ p4))) z ρ4, P.ex⟩, P.ex⟩, P.ex⟩, P.ex⟩ := rfl
end
end VL

namespace My
open PySem PySem.Spec PyProof.Rows L2 VL
def w__law_behindN (A : Cs) : DS :=
  wSeq (wAsg (wVar 1) (wgTup 4 (wgCons (wgN 4) (wgCons (wgN 5) (wgCons (wgN 6) (wgCons (wgN 7) (wgNil))))))) <|
  wSeq (wSet 8 (wFz (wOp oIx (wOp oIx (wVar 0) (wVar 5)) (wVar 6)))) <|
  wSeq (wIfS (wT (wOp oIsN (wVar 8) (wC .non))) (wRet (wC .non)) (wNext)) <|
  wSeq (wIfS (wT (wOp oEqX (wOp oIx (wVar 8) (wC (.int 1))) (wC (.str "r")))) (wSeq (wSet 9 (wFz (wOp oAdd (wTup (wCons (wOp oIx (wVar 8) (wC (.int 0))) (wNil))) (wSl (wVar 4) (wNo) (wSo (wOp (oI0 fun i j => i - j) (wCB oLen (wCons (wVar 4) (wNil))) (wC (.int 1)))))))) <|
  wRet (wTup (wCons (wC (.str "l")) (wCons (wVar 4) (wCons (wLc (wItN (wVar 3)) (wgN 10) (wT (wOp oEqX (wSl (wVar 10) (wNo) (wSo (wOp (oI0 fun i j => i - j) (wCB oLen (wCons (wVar 10) (wNil))) (wC (.int 1))))) (wSl (wVar 7) (wSo (wC (.int 1))) (wNo)))) (wTup (wCons (wVar 9) (wCons (wOp oIx (wVar 8) (wC (.int 2))) (wCons (wOp oIx (wVar 7) (wC (.int 0))) (wCons (wVar 10) (wNil)))))) [10] []) (wNil)))))) (wNext)) <|
  wSeq (wSet 9 (wFz (wOp oAdd (wTup (wCons (wOp oIx (wVar 8) (wC (.int 0))) (wNil))) (wSl (wVar 7) (wNo) (wSo (wOp (oI0 fun i j => i - j) (wCB oLen (wCons (wVar 7) (wNil))) (wC (.int 1)))))))) <|
  wRet (wTup (wCons (wC (.str "r")) (wCons (wVar 7) (wCons (wLc (wItN (wVar 2)) (wgN 10) (wT (wOp oEqX (wSl (wVar 10) (wNo) (wSo (wOp (oI0 fun i j => i - j) (wCB oLen (wCons (wVar 10) (wNil))) (wC (.int 1))))) (wSl (wVar 4) (wSo (wC (.int 1))) (wNo)))) (wTup (wCons (wVar 10) (wCons (wOp oIx (wVar 8) (wC (.int 2))) (wCons (wOp oIx (wVar 4) (wC (.int 0))) (wCons (wVar 9) (wNil)))))) [10] []) (wNil)))))

def w__law_least (A : Cs) : DS :=
  wSeq (wSet 2 (wFz (wOp oMulX (wTup (wCons (wC (.int 0)) (wNil))) (wVar 1)))) <|
  wSeq (wSet 3 (wDispO .N ["l", "r", "c"] (wConsN (wDispN (wVar 2) (wC (.bl true))) (wConsN (wDispN (wVar 2) (wC (.bl true))) (wConsN (wDispN (wTup (wCons (wVar 2) (wCons (wC (.int 0)) (wCons (wC (.int 0)) (wCons (wVar 2) (wNil)))))) (wC (.bl true))) (wNilN)))))) <|
  wSeq (wSet 4 (wFz (wC (.int 0)))) <|
  wSeq (wWhile (wAnd (wT (wOp (oB0 fun i j => decide (i < j)) (wVar 4) (wOp oAdd (wOp oAdd (wCB oLenX (wCons (wOp oIxX (wVar 3) (wC (.str "l"))) (wNil))) (wCB oLenX (wCons (wOp oIxX (wVar 3) (wC (.str "r"))) (wNil)))) (wCB oLenX (wCons (wOp oIxX (wVar 3) (wC (.str "c"))) (wNil)))))) (wT (wOp (oB0 fun i j => decide (i < j)) (wCB oLenX (wCons (wOp oIxX (wVar 3) (wC (.str "c"))) (wNil))) (wC (.int 62))))) (wSeq (wSet 4 (wFz (wOp oAdd (wOp oAdd (wCB oLenX (wCons (wOp oIxX (wVar 3) (wC (.str "l"))) (wNil))) (wCB oLenX (wCons (wOp oIxX (wVar 3) (wC (.str "r"))) (wNil)))) (wCB oLenX (wCons (wOp oIxX (wVar 3) (wC (.str "c"))) (wNil)))))) <|
  wFor (wIt (wCB oListX (wCons (wOp oIxX (wVar 3) (wC (.str "c"))) (wNil)))) (wgN 5) (wSeq (wSet 6 (wFz (wLendD 3 (wCall [.F, .F, .F, .F] (W__law_behindN A) [] (wCons (wVar 0) (wCons (wVar 5) (wCons (wOp oIxX (wVar 3) (wC (.str "l"))) (wCons (wOp oIxX (wVar 3) (wC (.str "r"))) (wNil))))))))) <|
  wSeq (wIfS (wT (wOp oIsN (wVar 6) (wC .non))) (wRet (wC .non)) (wNext)) <|
  wSeq (wAsg (wVar 6) (wgTup 3 (wgCons (wgN 7) (wgCons (wgN 8) (wgCons (wgN 9) (wgNil)))))) <|
  wSeq (wSubN (wC (.bl true)) (wOp oIxX (wVar 3) (wVar 7)) (wVar 8)) <|
  wFor (wIt (wVar 9)) (wgN 10) (wSubN (wC (.bl true)) (wOp oIxX (wVar 3) (wC (.str "c"))) (wVar 10))))) <|
  wRet (wTup (wCons (wC (.str "wall")) (wCons (wVar 1) (wCons (wCB oSortedX (wCons (wCB oListX (wCons (wOp oIxX (wVar 3) (wC (.str "l"))) (wNil))) (wNil))) (wCons (wCB oSortedX (wCons (wCB oListX (wCons (wOp oIxX (wVar 3) (wC (.str "r"))) (wNil))) (wNil))) (wCons (wCB oSortedX (wCons (wCB oListX (wCons (wOp oIxX (wVar 3) (wC (.str "c"))) (wNil))) (wNil))) (wNil)))))))

end My

namespace My
open PySem PySem.Spec PyProof.Rows L2 VL
end My

namespace My
open PySem PySem.Spec PyProof.Rows L2 VL
/-! sets by simp -/
def hasK (ks : List NestedKey) (k : NestedKey) : Bool := decide (k ∈ ks)
section
variable {k : Kd} {ks : List NestedKey} {x : Kd × D} {q : Kd × D → Prop}
theorem set_names : ((ks.map fun k => (k, D.bl true)).map fun x => nkD x.1) = ks.map nkD := by simp [List.map_map, Function.comp_def]
@[simp ↓] theorem itnK_set {q : List D → Prop} : itnK (.fz, setN ks) q = q (ks.map nkD) := by
  show q _ = _
  rw [set_names]
@[simp ↓] theorem oInX_setF : oInX x (.fz, setN ks) q = optK (keyN x.2) fun key => q (.fz, .bl (hasK ks key)) := by
  unfold setN hasK
  simp only [oInX_n, ndcK_f, isS_set]
@[simp ↓] theorem oNotInX_setF : oNotInX x (.fz, setN ks) q = optK (keyN x.2) fun key => q (.fz, .bl (!hasK ks key)) := by
  unfold setN hasK
  simp only [oNotInX_n, ndcK_f, isS_set]
@[simp ↓] theorem oLenX_setF : oLenX [(.fz, setN ks)] q = q (.fz, .int ks.length) := by
  unfold setN
  simp only [oLenX_n, ndcK_f, List.length_map]
@[simp ↓] theorem oLenX_setB {i : Nat} {p : List Nat} : oLenX [(.bor i p .N, setN ks)] q = q (.fz, .int ks.length) := by
  unfold setN
  simp only [oLenX_n, ndcK_b, List.length_map]
@[simp ↓] theorem oListX_setF : oListX [(.fz, setN ks)] q = q (.new (.L .F), .lst (ks.map nkD)) := by
  unfold setN
  simp only [oListX_n, ndcK_f, set_names]
@[simp ↓] theorem oListX_setB {i : Nat} {p : List Nat} : oListX [(.bor i p .N, setN ks)] q = q (.new (.L .F), .lst (ks.map nkD)) := by
  unfold setN
  simp only [oListX_n, ndcK_b, set_names]
@[simp ↓] theorem subNK_set {i : Nat} {p : List Nat} {d : D} {q : Nat → List Nat → D → Prop} : subNK (.bor i p .N, setN ks) (.fz, d) (.bl true) q = optK (keyN d) fun k => small (ks.length + 1) = true ∧ q i p (setN (putS ks k)) := by
  unfold setN
  simp only [subNK_n, List.length_map, putND_set]
@[simp] theorem isN_set : isN (setN ks) = false := rfl
end
theorem memG {L : List Gram} {g : Gram} : nkG g ∈ L.map nkG ↔ g ∈ L := by
  rw [List.mem_map]
  exact ⟨fun ⟨y, hy, e⟩ => nkG_inj e ▸ hy, fun h => ⟨g, h, rfl⟩⟩
theorem memX {L : List Ctx} {g : Ctx} : nkX g ∈ L.map nkX ↔ g ∈ L := by
  rw [List.mem_map]
  exact ⟨fun ⟨y, hy, e⟩ => nkX_inj e ▸ hy, fun h => ⟨g, h, rfl⟩⟩
@[simp] theorem decG {L : List Gram} {g : Gram} : hasK (L.map nkG) (nkG g) = decide (g ∈ L) := decide_eq_decide.mpr memG
@[simp] theorem decX {L : List Ctx} {g : Ctx} : hasK (L.map nkX) (nkX g) = decide (g ∈ L) := decide_eq_decide.mpr memX
@[simp] theorem compG : nkD ∘ nkG = gramD := by funext g; simp
@[simp] theorem compX : nkD ∘ nkX = ctxD := by funext g; simp
@[simp ↓] theorem namesG {L : List Gram} : (L.map nkG).map nkD = L.map gramD := by rw [List.map_map, compG]
@[simp ↓] theorem namesX {L : List Ctx} : (L.map nkX).map nkD = L.map ctxD := by rw [List.map_map, compX]
theorem noD_ctxs {l : List Ctx} : noDM 40 (.L .F) (.lst (l.map ctxD)) = true := by
  simp [noDM, VL.noD, ctxD, gramD]
end My

namespace My
open PySem PySem.Spec PyProof.Rows L2 VL
theorem d_entry_at (A : Cs) (ds : List D) (P : Pf) (h : W_entry_at A ds P) : w_entry_at A (endsOf [.F, .F] ds P) (zr [.F, .F] ds ++ List.replicate 0 none) := by
  obtain ⟨t, w, st, sg, c, rfl, ht, hc, h⟩ := h
  unfold w_entry_at
  have e1 := atI_row (g := rowT) ht hc.q.1 hc.q.2
  have e2 := atI_ent ht hc.q.1 hc.q.2 hc.s.1 hc.s.2
  simp [machD, ctxD, tabT, e1, rowT, e2] at h ⊢
  exact h
theorem cut_tail {xs : List D} (h : xs ≠ []) : VL.cutD xs (some 1) none = xs.tail := by
  cases xs with
  | nil => exact absurd rfl h
  | cons x xs => simp [VL.cutD, HT.sIx]
theorem cut_last {xs : List D} (h : xs ≠ []) : VL.cutD xs none (some (-1)) = xs.dropLast := by
  have hp : 0 < xs.length := List.length_pos_iff.mpr h
  unfold VL.cutD
  simp [HT.sIx]
  rw [List.dropLast_eq_take]
  congr 1
  omega
theorem gramD_ne {w sg : Nat} {g : Gram} (h : gOk w sg g) (hw : 0 < w) : g ≠ [] := fun e => by
  have := h.1
  rw [e] at this
  simp at this
  omega
theorem eqXs_g : ∀ {a b : Gram}, eqXs (a.map D.int) (b.map D.int) = decide (a = b)
  | [], [] => by simp [eqXs, pdOfs, PyData.eqvAll]
  | [], _ :: _ => by simp [eqXs, pdOfs, PyData.eqvAll]
  | _ :: _, [] => by simp [eqXs, pdOfs, PyData.eqvAll]
  | x :: a, y :: b => by
    have ih := eqXs_g (a := a) (b := b)
    unfold eqXs at ih ⊢
    simp only [List.map_cons, pdOfs, PyData.eqvAll, ih]
    have e : PyData.eqv (pdOf (.int x)) (pdOf (.int y)) = decide (x = y) := eqX_ii
    rw [e]
    by_cases c1 : x = y <;> by_cases c2 : a = b <;> simp [c1, c2]
theorem pdDL {n : Nat} {g : Gram} : ∀ x : D, x ∈ (g.map D.int).dropLast → pdK n x = true := fun x hx => by
  obtain ⟨i, _, rfl⟩ := List.mem_map.mp (List.dropLast_subset _ hx)
  simp
theorem pdTL {n : Nat} {g : Gram} : ∀ x : D, x ∈ (g.map D.int).tail → pdK n x = true := fun x hx => by
  obtain ⟨i, _, rfl⟩ := List.mem_map.mp (List.mem_of_mem_tail hx)
  simp
theorem hd_at {g : Gram} {w sg : Nat} (h : gOk w sg g) (hw : 0 < w) : L2.atI (g.map D.int) 0 = some (.int (g.headD 0)) := by
  cases g with
  | nil => exact absurd rfl (gramD_ne h hw)
  | cons x g => simp [L2.atI]
theorem d_contexts_behind (A : Cs) (ds : List D) (P : Pf) (h : W_contexts_behind A ds P) : w_contexts_behind A (endsOf [.F, .F, .F, .F] ds P) (zr [.F, .F, .F, .F] ds ++ List.replicate 9 none) := by
  obtain ⟨t, w, st, sg, c, L, R, rfl, ht, hw, hw', hc, ⟨hL, hR⟩, ⟨nL, nR⟩, he, h⟩ := h
  unfold w_contexts_behind
  have e1 := atI_row (g := rowT) ht hc.q.1 hc.q.2
  have e2 := atI_ent ht hc.q.1 hc.q.2 hc.s.1 hc.s.2
  have nl : c.l.map D.int ≠ [] := by simpa using gramD_ne hc.l hw
  have nr : c.r.map D.int ≠ [] := by simpa using gramD_ne hc.r hw
  have h1 := hd_at hc.l hw
  have h2 := hd_at hc.r hw
  cases e : entAt t c.q c.s with
  | none => exact absurd e he
  | some en =>
    obtain ⟨wr, d, s⟩ := en
    rw [e] at e2
    cases d with
    | true =>
      have eb : behindW t c L R = (R.filter fun g => decide (g.dropLast = c.r.tail)).map fun g => ⟨wr :: c.l.dropLast, s, c.r.headD 0, g⟩ := by
        unfold behindW
        rw [e]
      rw [eb] at h
      simp [machD, ctxD, tabT, e1, rowT, e2, entD, wayS] at h ⊢
      simp [gramD, cut_last nl, cut_tail nr]
      refine ⟨by have := hc.l.1; omega, ?_⟩
      refine lc_filt (c := fun g => decide (g.dropLast = c.r.tail)) (G := fun g => ctxD ⟨wr :: c.l.dropLast, s, c.r.headD 0, g⟩) ?_ ?_
      · simp [ctxD, gramD, Function.comp_def] at h ⊢
        exact h
      · intro g hg acc hacc
        have ng : g.map D.int ≠ [] := by simpa using gramD_ne (hR g hg) hw
        simp [gramD, cut_last ng, cut_tail nr, h2]
        have e3 : eqXs (g.map D.int).dropLast (c.r.map D.int).tail = decide (g.dropLast = c.r.tail) := by
          rw [← List.map_dropLast, ← List.map_tail, eqXs_g]
        rw [e3]
        by_cases q : g.dropLast = c.r.tail
        · simp [q, ctxD, gramD]
          exact ⟨⟨pdDL, pdTL⟩, by omega⟩
        · simp [q]
          exact ⟨pdDL, pdTL⟩
    | false =>
      have eb : behindW t c L R = (L.filter fun g => decide (g.dropLast = c.l.tail)).map fun g => ⟨g, s, c.l.headD 0, wr :: c.r.dropLast⟩ := by
        unfold behindW
        rw [e]
      rw [eb] at h
      simp [machD, ctxD, tabT, e1, rowT, e2, entD, wayS] at h ⊢
      simp [gramD, cut_last nr, cut_tail nl]
      refine ⟨by have := hc.r.1; omega, ?_⟩
      refine lc_filt (c := fun g => decide (g.dropLast = c.l.tail)) (G := fun g => ctxD ⟨g, s, c.l.headD 0, wr :: c.r.dropLast⟩) ?_ ?_
      · simp [ctxD, gramD, Function.comp_def] at h ⊢
        exact h
      · intro g hg acc hacc
        have ng : g.map D.int ≠ [] := by simpa using gramD_ne (hL g hg) hw
        simp [gramD, cut_last ng, cut_tail nl, h1]
        have e3 : eqXs (g.map D.int).dropLast (c.l.map D.int).tail = decide (g.dropLast = c.l.tail) := by
          rw [← List.map_dropLast, ← List.map_tail, eqXs_g]
        rw [e3]
        by_cases q : g.dropLast = c.l.tail
        · simp [q, ctxD, gramD]
          exact ⟨⟨pdDL, pdTL⟩, by omega⟩
        · simp [q]
          exact ⟨pdDL, pdTL⟩
end My

namespace My
open PySem PySem.Spec PyProof.Rows L2 VL
theorem behind_i {A : Cs} {P : Pf} {t : Tab} {w st sg : Nat} {c : Ctx} {L R : List Gram} (ht : TabOk t st sg) (hw : 0 < w) (hw' : w ≤ 30000) (hc : cOk w st sg c) (hL : ∀ g ∈ L, gOk w sg g) (hR : ∀ g ∈ R, gOk w sg g) (nL : L.length ≤ 90000) (nR : R.length ≤ 90000) (he : entAt t c.q c.s ≠ none) (h : P.ok (.new (.L .F), .lst ((behindW t c L R).map ctxD)) [machD A t, ctxD c, setN (L.map nkG), setN (R.map nkG)]) : W_contexts_behind A [machD A t, ctxD c, setN (L.map nkG), setN (R.map nkG)] P := ⟨t, w, st, sg, c, L, R, rfl, ht, hw, hw', hc, ⟨hL, hR⟩, ⟨nL, nR⟩, he, h⟩
end My

namespace My
open PySem PySem.Spec PyProof.Rows L2 VL
end My

namespace My
open PySem PySem.Spec PyProof.Rows L2 VL
end My

namespace My
open PySem PySem.Spec PyProof.Rows L2 VL
theorem behind_len2 {t : Tab} {c : Ctx} {L R : List Gram} {m : Nat} (hL : L.length ≤ m) (hR : R.length ≤ m) : (behindW t c L R).length ≤ m := by
  unfold behindW
  split
  · simp
  · rename_i w s _
    rw [List.length_map]
    have := List.length_filter_le (fun g : Gram => decide (g.dropLast = c.r.tail)) R
    omega
  · rename_i w s _
    rw [List.length_map]
    have := List.length_filter_le (fun g : Gram => decide (g.dropLast = c.l.tail)) L
    omega
theorem putSG {L : List Gram} {g : Gram} : putS (L.map nkG) (nkG g) = (putS L g).map nkG := putS_map nkG_inj
theorem putSX {L : List Ctx} {g : Ctx} : putS (L.map nkX) (nkX g) = (putS L g).map nkX := putS_map nkX_inj
abbrev stW (A : Cs) (t : Tab) (s : Wl) (many : Int) (a b c : Option D) : Rho := [some (.F, machD A t), some (.P .N, setN (s.L.map nkG)), some (.P .N, setN (s.R.map nkG)), some (.P .N, setN (s.C.map nkX)), some (.F, .int many), fr a, fr b, fr c]
theorem puts_loop {A : Cs} {t : Tab} {s : Wl} {many : Int} {a b c : Option D} {ns : List Ctx} {E : En} (hn : s.C.length + ns.length ≤ 99999) (h : ∀ c, E.nx (stW A t { s with C := putsS ns s.C } many a b c)) :
    forK (ns.map ctxD) (wgN 7) (wSubN (wC (.bl true)) (wVar 3) (wVar 7)) E (stW A t s many a b c) := by
  refine for_inv (fun i r => ∃ c : Option D, r = stW A t { s with C := putsS (ns.take i) s.C } many a b c) ⟨c, rfl⟩ ?_ ?_
  · rintro r ⟨c, rfl⟩
    rw [List.length_map, List.take_length]
    exact h c
  · rintro i d r hd ⟨c, rfl⟩
    rw [List.getElem?_map] at hd
    cases e : ns[i]? with
    | none => rw [e] at hd; cases hd
    | some n =>
      rw [e] at hd
      cases hd
      have hlt := (List.getElem?_eq_some_iff.mp e).1
      have h1 := (putsS_len (ys := ns.take i) (xs := s.C)).2
      have h2 : putsS (ns.take (i + 1)) s.C = putS (putsS (ns.take i) s.C) n := by
        rw [List.take_add_one, e]
        simp [putsS]
      rw [List.length_take] at h1
      simp [putSX, h2]
      omega
theorem d_grown_once (A : Cs) (ds : List D) (P : Pf) (h : W_grown_once A ds P) : w_grown_once A (endsOf [.F, .P (.N), .P (.N), .P (.N)] ds P) (zr [.F, .P (.N), .P (.N), .P (.N)] ds ++ List.replicate 4 none) := by
  obtain ⟨t, w, st, sg, s, rfl, ht, hw, hw', hs, ⟨n1, n2, n3⟩, h⟩ := h
  unfold w_grown_once
  simp [wlD]
  generalize hmany : (s.L.length : Int) + s.R.length + s.C.length = many
  refine for_inv (fun i r => ∃ (s' : Wl) (a b c : Option D), r = stW A t s' many a b c ∧ passW t (s.C.drop i) s' = passW t s.C s ∧ wOk w st sg s' ∧ s'.L.length ≤ 200 + i ∧ s'.R.length ≤ 200 + i ∧ s'.C.length ≤ 200 + i * 401) ⟨s, none, none, none, by simp [fr], by simp, hs, by omega, by omega, by omega⟩ ?_ ?_
  · rintro r ⟨s', a, b, c, rfl, hp, ho, _⟩
    rw [List.length_map, List.drop_length] at hp
    rw [← hp] at h
    simp [passW, wlD] at h ⊢
    have : (sizeW s' : Int) - sizeW s = (s'.L.length : Int) + s'.R.length + s'.C.length - many := by
      unfold sizeW
      omega
    rw [this] at h
    exact h
  · rintro i d r hd ⟨s', a, b, c, rfl, hp, ho, l1, l2, l3⟩
    rw [List.getElem?_map] at hd
    cases ex : s.C[i]? with
    | none => rw [ex] at hd; cases hd
    | some x =>
      rw [ex] at hd
      cases hd
      have hlt := (List.getElem?_eq_some_iff.mp ex).1
      have hx := hs.c x (List.mem_of_getElem? ex)
      have hdr : s.C.drop i = x :: s.C.drop (i + 1) := by
        rw [List.drop_eq_getElem_cons hlt]
        congr 1
        exact (List.getElem?_eq_some_iff.mp ex).2
      rw [hdr, passW] at hp
      simp
      refine entat_i ht hx ?_
      cases e : entAt t x.q x.s with
      | none =>
        have e0 : stepW t x s' = none := by unfold stepW; rw [e]
        rw [e0] at hp
        rw [← hp] at h
        have h := h s'
        simp [entD, wlD] at h ⊢
        exact h
      | some en =>
        obtain ⟨wr, d, q⟩ := en
        have e0 : stepW t x s' = some { putW d x s' with C := putsS (behindW t x (putW d x s').L (putW d x s').R) s'.C } := by unfold stepW; rw [e]
        rw [e0] at hp
        obtain ⟨k1, _⟩ := stepW_ok ht hw hx ho e0
        have k2 := putW_ok (d := d) ho hx
        have k3 := putW_len (d := d) (c := x) (s := s')
        have k4 := behind_len2 (t := t) (c := x) (L := (putW d x s').L) (R := (putW d x s').R) (m := 401) (by omega) (by omega)
        have k5 := (putsS_len (ys := behindW t x (putW d x s').L (putW d x s').R) (xs := s'.C)).2
        have key : ∀ {E : En} {v : D} {a b c : Option D}, (∀ a b c, E.nx (stW A t { putW d x s' with C := putsS (behindW t x (putW d x s').L (putW d x s').R) s'.C } many a b c)) →
            forK ((behindW t x (putW d x s').L (putW d x s').R).map ctxD) (wgN 7) (wSubN (wC (.bl true)) (wVar 3) (wVar 7)) E (stW A t (putW d x s') many a b c) := by
          intro E v a b c hE
          refine puts_loop (by rw [putW_C]; omega) fun c => ?_
          rw [putW_C]
          exact hE a b c
        cases d with
        | true =>
          simp [entD, wayS, ctxD, putSG]
          refine ⟨by omega, rfl, ?_⟩
          refine behind_i (c := x) (L := (putW true x s').L) (R := (putW true x s').R) ht hw hw' hx k2.l k2.r (by omega) (by omega) (by rw [e]; simp) ?_
          simp [noD_ctxs]
          refine key (v := .tup [.int wr, .str "r", .int q]) (a := some (ctxD x)) (b := some (.tup [.int wr, .str "r", .int q])) (c := c) fun a b c => ⟨_, ⟨a, b, c, rfl⟩, hp, k1, by simp only; omega, by simp only; omega, by simp only; omega⟩
        | false =>
          simp [entD, wayS, ctxD, putSG]
          refine ⟨by omega, rfl, ?_⟩
          refine behind_i (c := x) (L := (putW false x s').L) (R := (putW false x s').R) ht hw hw' hx k2.l k2.r (by omega) (by omega) (by rw [e]; simp) ?_
          simp [noD_ctxs]
          refine key (v := .tup [.int wr, .str "l", .int q]) (a := some (ctxD x)) (b := some (.tup [.int wr, .str "l", .int q])) (c := c) fun a b c => ⟨_, ⟨a, b, c, rfl⟩, hp, k1, by simp only; omega, by simp only; omega, by simp only; omega⟩
end My

namespace My
open PySem PySem.Spec PyProof.Rows L2 VL
theorem grown_i {A : Cs} {P : Pf} {t : Tab} {w st sg : Nat} {s : Wl} (ht : TabOk t st sg) (hw : 0 < w) (hw' : w ≤ 30000) (hs : wOk w st sg s) (n1 : s.L.length ≤ 200) (n2 : s.R.length ≤ 200) (n3 : s.C.length ≤ 200) (h : match passW t s.C s with
  | none => ∀ s', P.ok (.fz, .non) (machD A t :: wlD s')
  | some s' => P.ok (.fz, .int (sizeW s' - sizeW s : Int)) (machD A t :: wlD s')) : W_grown_once A [machD A t, setN (s.L.map nkG), setN (s.R.map nkG), setN (s.C.map nkX)] P := ⟨t, w, st, sg, s, rfl, ht, hw, hw', hs, ⟨n1, n2, n3⟩, h⟩
theorem passW_size {t : Tab} {cs : List Ctx} {s s' : Wl} (h : passW t cs s = some s') : sizeW s ≤ sizeW s' := by
  have := passW_len h
  unfold sizeW
  omega
theorem alikeAll_ints : ∀ {a b : Gram}, PySem.W.alikeAll (pdOfs (a.map D.int)) (pdOfs (b.map D.int)) = true
  | [], _ => by simp [pdOfs, PySem.W.alikeAll]
  | _ :: _, [] => by simp [pdOfs, PySem.W.alikeAll]
  | x :: a, y :: b => by
    have ih := alikeAll_ints (a := a) (b := b)
    simp [pdOfs, PySem.W.alikeAll, pdOf, PySem.W.alike, ih]
theorem alike_g {a b : Gram} : PySem.W.alike (pdOf (gramD a)) (pdOf (gramD b)) = true := by
  unfold gramD
  simp only [pdOf, PySem.W.alike]
  exact alikeAll_ints
theorem alike_x {a b : Ctx} : PySem.W.alike (pdOf (ctxD a)) (pdOf (ctxD b)) = true := by
  unfold ctxD
  simp only [pdOf, pdOfs, PySem.W.alike, PySem.W.alikeAll]
  simp [alike_g, pdOf, PySem.W.alike]
theorem sortG {L : List Gram} {w sg : Nat} (h0 : ∀ g ∈ L, gOk w sg g) (hw : 0 < w) : (∀ a, a ∈ L → pdK 40 (gramD a) = true) ∧ PySem.W.AllAlike (L.map (pdOf ∘ gramD)) ∧ PySem.W.Sortable (L.map (pdOf ∘ gramD)) := by
  refine ⟨fun g _ => by simp [gramD, pdK], ?_, ?_⟩
  · intro d hd d' hd'
    simp only [List.mem_map, Function.comp] at hd hd'
    obtain ⟨a, _, rfl⟩ := hd
    obtain ⟨b, _, rfl⟩ := hd'
    exact alike_g
  · refine .inl fun d hd => ?_
    simp only [List.mem_map, Function.comp] at hd
    obtain ⟨a, ha, rfl⟩ := hd
    have hn := gramD_ne (h0 a ha) hw
    cases a with
    | nil => exact absurd rfl hn
    | cons x a => exact ⟨_, _, rfl⟩
theorem sortX {L : List Ctx} : (∀ a, a ∈ L → pdK 40 (ctxD a) = true) ∧ PySem.W.AllAlike (L.map (pdOf ∘ ctxD)) ∧ PySem.W.Sortable (L.map (pdOf ∘ ctxD)) := by
  refine ⟨fun g _ => by simp [ctxD, gramD, pdK], ?_, ?_⟩
  · intro d hd d' hd'
    simp only [List.mem_map, Function.comp] at hd hd'
    obtain ⟨a, _, rfl⟩ := hd
    obtain ⟨b, _, rfl⟩ := hd'
    exact alike_x
  · refine .inl fun d hd => ?_
    simp only [List.mem_map, Function.comp] at hd
    obtain ⟨a, ha, rfl⟩ := hd
    exact ⟨_, _, rfl⟩
abbrev stL (A : Cs) (t : Tab) (w : Nat) (most : Int) (s : Wl) (came : Int) : Rho := [some (.F, machD A t), some (.F, .int w), some (.F, .int most), some (.F, gramD (blankG w)), some (.N, setN (s.L.map nkG)), some (.N, setN (s.R.map nkG)), some (.N, setN (s.C.map nkX)), some (.F, .int came)]
end My

namespace My
open PySem PySem.Spec PyProof.Rows L2 VL
theorem d_is_number (A : Cs) (ds : List D) (P : Pf) (h : W_is_number A ds P) : w_is_number A (endsOf [.F, .F] ds P) (zr [.F, .F] ds ++ List.replicate 0 none) := by
  obtain ⟨d, n, rfl, hd, h⟩ := h
  unfold w_is_number
  cases d with
  | int x =>
    simp [numB] at h ⊢
    by_cases c : 0 ≤ x
    · simp [c] at h ⊢
      exact h
    · simp [c] at h ⊢
      exact h
  | bl b => simpa [numB] using h
  | non => simpa [numB] using h
  | str s => simpa [numB] using h
  | tup xs => simpa [numB] using h
  | lst xs => simpa [numB] using h
  | dct xs => simp [plB] at hd
  | obj C xs => simp [plB] at hd
  | scr xs => simp [plB] at hd
  | exc xs => simp [plB] at hd
  | ndc xs => simp [plB] at hd
  | exf _ _ => simp [plB] at hd
theorem d_entry_kept (A : Cs) (ds : List D) (P : Pf) (h : W_entry_kept A ds P) : w_entry_kept A (endsOf [.F, .F, .F] ds P) (zr [.F, .F, .F] ds ++ List.replicate 3 none) := by
  obtain ⟨e, st, sg, rfl, he, h⟩ := h
  unfold w_entry_kept
  cases e with
  | none =>
    simp [entD] at h ⊢
    exact h
  | some e =>
    obtain ⟨w, r, s⟩ := e
    obtain ⟨⟨h1, h2⟩, h3, h4⟩ := he
    simp [entD] at h ⊢
    simp [h1, h2, h3, h4]
    cases r <;> simpa [wayS] using h
end My

namespace My
open PySem PySem.Spec PyProof.Rows L2 VL
theorem fmod_bound (m : Int) : 0 ≤ m % 2147483647 ∧ m % 2147483647 < 2147483647 := ⟨Int.emod_nonneg _ (by decide), Int.emod_lt_of_pos _ (by decide)⟩
theorem cmul_l {a b : Int} (h1 : 0 ≤ a) (h2 : a < 18446744073709551616) : CMul a b := .inl ⟨by omega, by omega⟩
theorem cmul_r {a b : Int} (h1 : 0 ≤ b) (h2 : b < 18446744073709551616) : CMul a b := .inr ⟨by omega, by omega⟩
theorem lr_at (m : Int) : ∃ r : Bool, L2.atI (Str.ofString "lr").cps.toList (m % 2) = some (if r then 114 else 108) ∧ (⟨#[if r then 114 else 108]⟩ : Str) = wayS r := by
  have e : (Str.ofString "lr").cps.toList = [108, 114] := by decide +kernel
  have hm : m % 2 = 0 ∨ m % 2 = 1 := by omega
  rcases hm with h | h
  · refine ⟨false, ?_, by decide +kernel⟩
    rw [e, h]
    rfl
  · refine ⟨true, ?_, by decide +kernel⟩
    rw [e, h]
    rfl
theorem lr_len : (Str.ofString "lr").length = 2 := by decide +kernel
theorem d_Machine_init (A : Cs) (ds : List D) (P : Pf) (h : W_Machine_init A ds P) : w_Machine_init A (endsOf (mkMs [.F] 1) ds P) (zr (mkMs [] 1) ds ++ List.replicate 5 none) := by
  obtain ⟨t, st, sg, C, rfl, ht, h⟩ := h
  unfold w_Machine_init
  have hst := ht.st0
  have e := atI_row (g := rowL) ht (q := 0) (by omega) (by omega)
  have l := row_len ht (q := 0) (by omega) (by omega)
  have hl := ht.len
  have hl0 : ¬ t.length = 0 := by omega
  have hsg : ¬ sg = 0 := by have := ht.sg0; omega
  simp [mkMs, tabL, e, rowL, l]
  refine ⟨by intro z; subst z; simp at hl0, hsg, ?_⟩
  refine for_inv (fun i r => ∃ a b : Option D, r = [some (.P (.O []), .obj A.C_Machine []), some (.F, tabL t), some (.F, .int t.length), some (.F, .int sg), some (.L .F, .lst ((t.take i).map rowT)), fr a, fr b]) ⟨none, none, rfl⟩ ?_ ?_
  · rintro r ⟨a, b, rfl⟩
    have e9 : (t.take (List.map rowL t).length).map rowT = t.map rowT := by rw [List.length_map, List.take_length]
    rw [e9]
    simp
    exact h
  · rintro i d r hd ⟨a, b, rfl⟩
    rw [List.getElem?_map] at hd
    cases em : t[i]? with
    | none => rw [em] at hd; simp at hd
    | some row =>
      rw [em] at hd
      simp at hd
      subst hd
      have hi := (List.getElem?_eq_some_iff.mp em).1
      have hr := ht.row row (List.mem_of_getElem? em)
      have et : t.take (i + 1) = t.take i ++ [row] := by rw [List.take_add_one, em]; rfl
      have hS := ht.stS
      have hG := ht.sgS
      simp [rowL, hr.1]
      refine lc_map id ?_ ?_
      · simp [et, rowT]
        refine ⟨by omega, ?_⟩
        rw [← List.map_take, ← List.map_take, et]
        simp [rowT]
      · intro d hd acc ha
        obtain ⟨en, hen, rfl⟩ := List.mem_map.mp hd
        rw [List.length_map, hr.1] at ha
        simp
        unfold W_entry_kept
        refine ⟨en, st, sg, by rw [hl], hr.2 en hen, ?_⟩
        simp
        omega
theorem TabOk.set {t : Tab} {st sg : Nat} (h : TabOk t st sg) (k j : Nat) (e : Ent) (he : EntOk st sg e) : TabOk (t.set k ((rowAt t k).set j e)) st sg := by
  refine ⟨h.st0, h.sg0, h.stS, h.sgS, by rw [List.length_set]; exact h.len, fun r hr => ?_⟩
  by_cases hk : k < t.length
  · have hm : rowAt t k ∈ t := rowAt_mem h (q := (k : Int)) (by omega) (by have := h.len; omega)
    rcases List.mem_or_eq_of_mem_set hr with q | rfl
    · exact h.row r q
    · refine ⟨by rw [List.length_set]; exact (h.row _ hm).1, fun e' he' => ?_⟩
      rcases List.mem_or_eq_of_mem_set he' with q | rfl
      · exact (h.row _ hm).2 e' q
      · exact he
  · rw [List.set_eq_of_length_le (by omega)] at hr
    exact h.row r hr
def mb_in (A : Cs) : DS := (wSeq (wSet 2 (wFz (wCall [.F, .P (.L .F)] (W__law_next A) [] (wCons (wVar 0) (wCons (wVar 1) (wNil)))))) <|
  wSeq (wIfS (wAnd (wT (wOp oEq (wOp (oI (fun _ j => 0 < j) fun i j => i % j) (wVar 2) (wC (.int 3))) (wC (.int 0)))) (wT (wOp oNotN (wOp oIx (wOp oIx (wVar 5) (wVar 6)) (wVar 7)) (wC .non)))) (wSub (wTup (wCons (wOp oIx (wOp oIx (wOp oIx (wVar 5) (wVar 6)) (wVar 7)) (wC (.int 0))) (wCons (wOp oIx (wOp oIx (wOp oIx (wVar 5) (wVar 6)) (wVar 7)) (wC (.int 1))) (wCons (wVar 6) (wNil))))) (wOp oIx (wVar 5) (wVar 6)) (wVar 7)) (wNext)) <|
  wIfS (wAnd (wT (wOp (oB0 fun i j => decide (j < i)) (wOp (oI (fun _ j => 0 < j) fun i j => i % j) (wOp (oI CDiv fun i j => i / j) (wVar 2) (wC (.int 3))) (wC (.int 7))) (wC (.int 1)))) (wT (wOp oIsN (wOp oIx (wOp oIx (wVar 5) (wVar 6)) (wVar 7)) (wC .non)))) (wSub (wTup (wCons (wOp (oI (fun _ j => 0 < j) fun i j => i % j) (wOp (oI CDiv fun i j => i / j) (wVar 2) (wC (.int 30))) (wVar 4)) (wCons (wOp oIx (wC (.str "lr")) (wOp (oI (fun _ j => 0 < j) fun i j => i % j) (wOp (oI CDiv fun i j => i / j) (wVar 2) (wC (.int 300))) (wC (.int 2)))) (wCons (wOp (oI (fun _ j => 0 < j) fun i j => i % j) (wOp (oI CDiv fun i j => i / j) (wVar 2) (wC (.int 600))) (wVar 3)) (wNil))))) (wOp oIx (wVar 5) (wVar 6)) (wVar 7)) (wNext))
end My

namespace My
open PySem PySem.Spec PyProof.Rows L2 VL
end My

namespace My
open PySem PySem.Spec PyProof.Rows L2 VL
end My

namespace My
open PySem PySem.Spec PyProof.Rows L2 VL
/-- the dict of the shots met -/
def metD (t : Tab) (i : Nat) : List (NestedKey × D) := (List.range i).map fun j => (nkC (runC t j cf0).2, .int (j : Int))
/-- the last so many of the first ones -/
def backF (t : Tab) (l i : Nat) : Option Nat := ((List.range l).drop (l - i)).find? fun f => shR t f l
end My

namespace My
open PySem PySem.Spec PyProof.Rows L2 VL
end My

namespace My
open PySem PySem.Spec PyProof.Rows L2 VL
end My

namespace My
open PySem PySem.Spec PyProof.Rows L2 VL
theorem d__law_nextR (A : Cs) (ds : List D) (P : Pf) (h : W__law_nextR A ds P) : w__law_nextR A (endsOf [.F, .P (.L .F)] ds P) (zr [.F, .P (.L .F)] ds ++ List.replicate 2 none) := by
  unfold W__law_nextR at h
  unfold W__law_next at h
  split at h
  · rename_i ns a
    obtain ⟨⟨h0, h1⟩, h⟩ := h
    unfold w__law_nextR
    have fin : ∀ v : Int, P.ok (.fz, .int (v % 2147483647 * (v % 2147483647) % 1999999973)) [.scr ns, .lst [.int (a + 1)]] := fun v => h _ (Int.emod_nonneg _ (by decide)) (Int.emod_lt_of_pos _ (by decide))
    have c1 : CMul (a + 1) (a + 1) := cmul_l (by omega) (by omega)
    have c2 : ∀ x : Int, CMul x 7919 := fun x => cmul_r (by decide) (by decide)
    have c3 : ∀ x : Int, CMul x 48271 := fun x => cmul_r (by decide) (by decide)
    have c4 : ∀ x : Int, CMul (x % 2147483647) (x % 2147483647) := fun x => cmul_l (fmod_bound x).1 (by have := (fmod_bound x).2; omega)
    simp [c1, c2, c3, c4, fin]
    intro hn
    have e := atI_of (xs := ns) (i := (a + 1) % (ns.length : Int)) (Int.emod_nonneg _ (by omega)) (Int.emod_lt_of_pos _ (by omega))
    have hlt : ((a + 1) % (ns.length : Int)).toNat < ns.length := by
      have := Int.emod_lt_of_pos (a + 1) (b := (ns.length : Int)) (by omega)
      have := Int.emod_nonneg (a + 1) (b := (ns.length : Int)) (by omega)
      omega
    rw [e, List.getElem?_eq_getElem hlt]
    simp [fin]
    exact hn
  · exact h.elim
theorem d__law_tableR (A : Cs) (ds : List D) (P : Pf) (h : W__law_tableR A ds P) : w__law_tableR A (endsOf [.F, .P (.L .F), .F, .F] ds P) (zr [.F, .P (.L .F), .F, .F] ds ++ List.replicate 6 none) := by
  obtain ⟨ns, a, st, sg, rfl, ha, hst, hsg, h⟩ := h
  unfold w__law_tableR
  simp
  refine ⟨⟨by omega, by omega⟩, ?_⟩
  refine for_inv (fun i r => ∃ (t : Tab) (a' : Int) (k l j m e : Option D), r = [some (.F, .scr ns), some (.P (.L .F), .lst [.int a']), some (.F, .int st), some (.F, .int sg), some (.L .F, tabL t), fr k, fr l, fr j, fr m, fr e] ∧ t.length = i ∧ (∀ r ∈ t, r.length = sg ∧ ∀ e ∈ r, EntOk st sg e) ∧ a ≤ a' ∧ a' ≤ a + i * 100) ⟨[], a, none, none, none, none, none, rfl, rfl, by simp, by omega, by omega⟩ ?_ ?_
  · rintro r ⟨t, a', k, l, j, m, e, rfl, hl, hr, h1, h2⟩
    rw [rangeD_len] at hl h2
    simp
    exact h t a' ⟨by omega, by omega, by omega, by omega, by omega, hr⟩ h1 (by omega)
  · rintro i d r hd ⟨t, a', k, l, j, m, e, rfl, hl, hr, h1, h2⟩
    obtain ⟨hi, rfl⟩ := rangeD_get hd
    simp
    refine ⟨⟨by omega, by omega⟩, ?_⟩
    refine for_inv (fun i' r => ∃ (row : List Ent) (a'' : Int) (j m e : Option D), r = [some (.F, .scr ns), some (.P (.L .F), .lst [.int a'']), some (.F, .int st), some (.F, .int sg), some (.L .F, tabL t), some (.F, .int i), some (.L .F, rowL row), fr j, fr m, fr e] ∧ row.length = i' ∧ (∀ e ∈ row, EntOk st sg e) ∧ a ≤ a'' ∧ a'' ≤ a + i * 100 + i') ⟨[], a', j, m, e, by simp [rowL], rfl, by simp, h1, by omega⟩ ?_ ?_
    · rintro r ⟨row, a'', j, m, e, rfl, hl', hr', h1', h2'⟩
      rw [rangeD_len] at hl' h2'
      simp [tabL, rowL]
      refine ⟨by omega, t ++ [row], a'', ⟨rfl, by simp [rowL]⟩, by simp; omega, ?_, by omega, by omega⟩
      intro r hr2
      rcases List.mem_append.mp hr2 with q | q
      · exact hr r q
      · simp at q
        subst q
        exact ⟨hl', hr'⟩
    · rintro i' d r hd ⟨row, a'', j, m, e, rfl, hl', hr', h1', h2'⟩
      obtain ⟨hi', rfl⟩ := rangeD_get hd
      simp [lr_len, rowL]
      refine ⟨⟨by omega, by omega⟩, fun m hm0 hm1 => ⟨⟨by omega, by omega⟩, by omega, ⟨by omega, by omega⟩, ?_⟩⟩
      obtain ⟨r, er, ew⟩ := lr_at (m / 100)
      rw [er]
      simp [ew]
      refine ⟨⟨by omega, by omega⟩, by omega, ?_⟩
      by_cases c : m % 9 = 0
      · rw [if_pos c]
        refine ⟨by omega, row ++ [none], a'' + 1, ⟨rfl, by simp [entD]⟩, by simp; omega, ?_, by omega, by omega⟩
        intro e he
        rcases List.mem_append.mp he with q | q
        · exact hr' e q
        · simp at q
          subst q
          trivial
      · rw [if_neg c]
        refine ⟨by omega, row ++ [some (m / 9 % sg, r, m / 300 % st)], a'' + 1, ⟨rfl, by simp [entD]⟩, by simp; omega, ?_, by omega, by omega⟩
        intro e he
        rcases List.mem_append.mp he with q | q
        · exact hr' e q
        · simp at q
          subst q
          exact ⟨⟨Int.emod_nonneg _ (by omega), Int.emod_lt_of_pos _ (by omega)⟩, Int.emod_nonneg _ (by omega), Int.emod_lt_of_pos _ (by omega)⟩
theorem zipD_self (xs : List D) : zipD xs xs = xs.map fun x => .tup [x, x] := by
  unfold zipD
  induction xs with
  | nil => rfl
  | cons x xs ih => simp only [List.zip_cons_cons, List.map_cons, ih]
theorem blsOf_true : ∀ {α : Type} (xs : List α), blsOf (xs.map fun _ => D.bl true) = some (xs.map fun _ => true)
  | _, [] => rfl
  | _, x :: xs => by simp only [List.map_cons, blsOf, blsOf_true xs]
theorem same_zipE {A : Cs} {n : Nat} {xs : List D} (hl : xs.length ≤ 90000) (hx : ∀ x ∈ xs, shI n x = true) {ρ : Rho} {Z : List D → Rho → Prop} {d1 d2 : D} (e : ρ = [some (.F, d1), some (.F, d2), none, none, none]) (hz : Z (xs.map fun _ => D.bl true) ρ) :
    lcK (zipD xs xs) (wgTup 2 (wgCons (wgN 3) (wgCons (wgN 4) wgNil))) wYes (wCall [Md.F, Md.F] (W__law_sameE A (n + 1)) [] (wCons (wVar 3) (wCons (wVar 4) wNil))) [3, 4] [] ρ Z := by
  subst e
  rw [zipD_self]
  refine lc_mapA (f := fun x => .tup [x, x]) (G := fun _ => .bl true) hz fun x hxm acc ha => ?_
  simp
  refine sameE_i (hx x hxm) ?_
  simp
  omega
theorem d__law_sameE (A : Cs) (n : Nat) (ds : List D) (P : Pf) (h : W__law_sameE A (n + 1) ds P) : w__law_sameE A n (endsOf [.F, .F] ds P) (zr [.F, .F] ds ++ List.replicate 3 none) := by
  obtain ⟨x, rfl, hx, h⟩ := h
  unfold w__law_sameE
  cases x with
  | int b => simpa using h
  | str b => simpa using h
  | lst b =>
    cases n with
    | zero => simp [shI] at hx
    | succ n =>
      simp [shI] at hx
      simp
      refine same_zipE hx.1 hx.2 rfl ?_
      rw [blsOf_true]
      have e : (b.all fun _ => true) = true := List.all_eq_true.mpr fun _ _ => rfl
      simpa [e] using h
  | tup b =>
    cases n with
    | zero => simp [shI] at hx
    | succ n =>
      simp [shI] at hx
      simp
      refine same_zipE hx.1 hx.2 rfl ?_
      rw [blsOf_true]
      have e : (b.all fun _ => true) = true := List.all_eq_true.mpr fun _ _ => rfl
      simpa [e] using h
  | _ => cases n <;> simp [shI] at hx
end My

namespace My
open PySem PySem.Spec PyProof.Rows L2 VL
local macro_rules | `(tactic| simp $[[$args,*]]? $[$loc]?) => `(tactic| simp -implicitDefEqProofs $[[$args,*]]? $[$loc]?)
local macro_rules | `(tactic| simpa $[[$args,*]]? using $e) => `(tactic| simpa -implicitDefEqProofs $[[$args,*]]? using $e)
theorem cut_predN {xs : List D} {k : Int} (h : xs ≠ []) (hk : k = (xs.length : Int) - 1) : VL.cutD xs none (some k) = xs.dropLast := by
  have hp : 0 < xs.length := List.length_pos_iff.mpr h
  unfold VL.cutD
  subst hk
  have c : ¬ ((xs.length : Int) - 1 < 0) := by omega
  simp [HT.sIx, c]
  rw [List.dropLast_eq_take]
theorem d__law_behindN (A : Cs) (ds : List D) (P : Pf) (h : W__law_behindN A ds P) : w__law_behindN A (endsOf [.F, .F, .F, .F] ds P) (zr [.F, .F, .F, .F] ds ++ List.replicate 7 none) := by
  obtain ⟨t, w, st, sg, c, L, R, rfl, ht, ⟨hw0, hw1⟩, hc, ⟨hL, hR⟩, ⟨nL, nR⟩, h⟩ := h
  simp only [zr_c, zr_n, List.replicate_succ, List.replicate_zero, List.cons_append, List.nil_append]
  unfold w__law_behindN
  have e1 := atI_row (g := rowL) ht hc.q.1 hc.q.2
  have e2 := atI_ent ht hc.q.1 hc.q.2 hc.s.1 hc.s.2
  have nl : c.l.map D.int ≠ [] := by simpa using gramD_ne hc.l hw0
  have nr : c.r.map D.int ≠ [] := by simpa using gramD_ne hc.r hw0
  have h1 := hd_at hc.l hw0
  have h2 := hd_at hc.r hw0
  have p1 := cut_predN nl (k := (c.l.length : Int) - 1) (by simp)
  have p2 := cut_predN nr (k := (c.r.length : Int) - 1) (by simp)
  unfold behN at h
  cases e : entAt t c.q c.s with
  | none =>
    rw [e] at e2 h
    simp [tabL, ctxD, e1, rowL, e2, entD] at h ⊢
    exact h
  | some en =>
    obtain ⟨wr, d, s⟩ := en
    rw [e] at e2 h
    have eN : isN (entD (some (wr, d, s))) = false := rfl
    cases d with
    | true =>
      have eb : behindW t c L R = (R.filter fun g => decide (g.dropLast = c.r.tail)).map fun g => ⟨wr :: c.l.dropLast, s, c.r.headD 0, g⟩ := by
        unfold behindW
        rw [e]
      simp [eb] at h
      simp [tabL, ctxD, e1, rowL, e2, entD, wayS] at h ⊢
      simp [gramD, cut_tail nr, p1]
      have := hc.l.1
      refine ⟨by omega, ?_⟩
      refine lc_filt (c := fun g => decide (g.dropLast = c.r.tail)) (G := fun g => ctxD ⟨wr :: c.l.dropLast, s, c.r.headD 0, g⟩) ?_ ?_
      · simp [ctxD, gramD, Function.comp_def] at h ⊢
        exact h
      · intro g hg acc hacc
        have ng : g.map D.int ≠ [] := by simpa using gramD_ne (hR g hg) hw0
        have pg := cut_predN ng (k := (g.length : Int) - 1) (by simp)
        simp [gramD, pg, cut_tail nr, h2]
        have e3 : eqXs (g.map D.int).dropLast (c.r.map D.int).tail = decide (g.dropLast = c.r.tail) := by
          rw [← List.map_dropLast, ← List.map_tail, eqXs_g]
        rw [e3]
        by_cases q : g.dropLast = c.r.tail
        · simp [q, ctxD, gramD]
          exact ⟨⟨pdDL, pdTL⟩, by omega⟩
        · simp [q]
          exact ⟨pdDL, pdTL⟩
    | false =>
      have eb : behindW t c L R = (L.filter fun g => decide (g.dropLast = c.l.tail)).map fun g => ⟨g, s, c.l.headD 0, wr :: c.r.dropLast⟩ := by
        unfold behindW
        rw [e]
      simp [eb] at h
      simp [tabL, ctxD, e1, rowL, e2, entD, wayS] at h ⊢
      simp [gramD, cut_tail nl, p2]
      have := hc.r.1
      refine ⟨by omega, ?_⟩
      refine lc_filt (c := fun g => decide (g.dropLast = c.l.tail)) (G := fun g => ctxD ⟨g, s, c.l.headD 0, wr :: c.r.dropLast⟩) ?_ ?_
      · simp [ctxD, gramD, Function.comp_def] at h ⊢
        exact h
      · intro g hg acc hacc
        have ng : g.map D.int ≠ [] := by simpa using gramD_ne (hL g hg) hw0
        have pg := cut_predN ng (k := (g.length : Int) - 1) (by simp)
        simp [gramD, pg, cut_tail nl, h1]
        have e3 : eqXs (g.map D.int).dropLast (c.l.map D.int).tail = decide (g.dropLast = c.l.tail) := by
          rw [← List.map_dropLast, ← List.map_tail, eqXs_g]
        rw [e3]
        by_cases q : g.dropLast = c.l.tail
        · simp [q, ctxD, gramD]
          exact ⟨⟨pdDL, pdTL⟩, by omega⟩
        · simp [q]
          exact ⟨pdDL, pdTL⟩
end My

namespace My
open PySem PySem.Spec PyProof.Rows L2 VL
local macro_rules | `(tactic| simp $[[$args,*]]? $[$loc]?) => `(tactic| simp -implicitDefEqProofs $[[$args,*]]? $[$loc]?)
local macro_rules | `(tactic| simpa $[[$args,*]]? using $e) => `(tactic| simpa -implicitDefEqProofs $[[$args,*]]? using $e)
def fndD (s : Wl) : D := .dct [(.inr "l", setN (s.L.map nkG)), (.inr "r", setN (s.R.map nkG)), (.inr "c", setN (s.C.map nkX))]
abbrev stF (t : Tab) (w : Nat) (s : Wl) (z : Int) (x5 x6 x7 x8 x9 x10 : Option D) : Rho := [some (.F, tabL t), some (.F, .int w), some (.F, gramD (blankG w)), some (.M .N, fndD s), some (.F, .int z), fr x5, fr x6, fr x7, fr x8, fr x9, fr x10]
theorem fD_l {a b c : D} : idxD [(.inr "l", a), (.inr "r", b), (.inr "c", c)] (.inr "l") = some 0 := by
  unfold idxD
  rfl
theorem fD_r {a b c : D} : idxD [(.inr "l", a), (.inr "r", b), (.inr "c", c)] (.inr "r") = some 1 := by
  unfold idxD
  rfl
theorem fD_c {a b c : D} : idxD [(.inr "l", a), (.inr "r", b), (.inr "c", c)] (.inr "c") = some 2 := by
  unfold idxD
  rfl
theorem oIxX_F {kd : Kd} {z : Str} {es : List (Key × D)} {q : Kd × D → Prop} : oIxX (.fz, .dct es) (kd, .str z) q = optK (valD es (.inr z)) fun d => q (.fz, d) := rfl
theorem fV_l {a b c : D} : valD [(.inr "l", a), (.inr "r", b), (.inr "c", c)] (.inr "l") = some a := rfl
theorem fV_r {a b c : D} : valD [(.inr "l", a), (.inr "r", b), (.inr "c", c)] (.inr "r") = some b := rfl
theorem noD_behN {t : Tab} {c : Ctx} {L R : List Gram} : noD 40 (behN t c L R) = true := by
  unfold behN
  split
  · rfl
  · rename_i w d q _
    cases d <;> simp [VL.noD, ctxD, gramD]
theorem putsF_loop {t : Tab} {w : Nat} {s : Wl} {z : Int} {x5 x6 x7 x8 x9 x10 : Option D} {ns : List Ctx} {E : En} (hn : s.C.length + ns.length ≤ 99999) (h : ∀ c, E.nx (stF t w { s with C := putsS ns s.C } z x5 x6 x7 x8 x9 c)) :
    forK (ns.map ctxD) (wgN 10) (wSubN (wC (.bl true)) (wOp oIxX (wVar 3) (wC (.str "c"))) (wVar 10)) E (stF t w s z x5 x6 x7 x8 x9 x10) := by
  refine for_inv (fun i r => ∃ c : Option D, r = stF t w { s with C := putsS (ns.take i) s.C } z x5 x6 x7 x8 x9 c) ⟨x10, rfl⟩ ?_ ?_
  · rintro r ⟨c, rfl⟩
    rw [List.length_map, List.take_length]
    exact h c
  · rintro i d r hd ⟨c, rfl⟩
    rw [List.getElem?_map] at hd
    cases e : ns[i]? with
    | none => rw [e] at hd; cases hd
    | some n =>
      rw [e] at hd
      cases hd
      have hlt := (List.getElem?_eq_some_iff.mp e).1
      have h1 := (putsS_len (ys := ns.take i) (xs := s.C)).2
      have h2 : putsS (ns.take (i + 1)) s.C = putS (putsS (ns.take i) s.C) n := by
        rw [List.take_add_one, e]
        simp [putsS]
      rw [List.length_take] at h1
      simp [fndD, fD_c, putSX, h2]
      exact ⟨by omega, rfl⟩
theorem behindW_put {t : Tab} {c : Ctx} {s : Wl} {wr q : Int} {d : Bool} (e : entAt t c.q c.s = some (wr, d, q)) : behindW t c (putW d c s).L (putW d c s).R = behindW t c s.L s.R := by
  unfold behindW
  rw [e]
  cases d <;> rfl
theorem d__law_least (A : Cs) (ds : List D) (P : Pf) (h : W__law_least A ds P) : w__law_least A (endsOf [.F, .F] ds P) (zr [.F, .F] ds ++ List.replicate 9 none) := by
  obtain ⟨t, st, sg, w, rfl, ht, ⟨hw, hw'⟩, h⟩ := h
  simp only [zr_c, zr_n, List.replicate_succ, List.replicate_zero, List.cons_append, List.nil_append]
  unfold w__law_least
  have eb : D.tup (List.replicate w (D.int 0)) = gramD (blankG w) := by unfold gramD blankG; rw [List.map_replicate]
  have ec' : D.tup [gramD (blankG w), .int 0, .int 0, gramD (blankG w)] = ctxD ⟨blankG w, 0, 0, blankG w⟩ := rfl
  simp
  refine ⟨by omega, ?_⟩
  simp [eb]
  rw [ec']
  simp
  refine ⟨fun m r => ∃ (s : Wl) (z : Int) (x5 x6 x7 x8 x9 x10 : Option D), r = stF t w s z x5 x6 x7 x8 x9 x10 ∧ wOk w st sg s ∧ ofC s ∧ ((z < sizeW s ∧ loopL t m s = leastW t w ∧ 200 ≤ m + sizeW s) ∨ (z = sizeW s ∧ leastW t w = some s)), ⟨200, wl0 w, 0, none, none, none, none, none, none, rfl, wl0_ok ht, wl0_ofC, .inl ⟨by unfold sizeW wl0; simp, rfl, by omega⟩⟩, ?_⟩
  rintro m r ⟨s, z, x5, x6, x7, x8, x9, x10, rfl, ho, hf, hc⟩
  have hlen := hf.len ho
  have hsz : ((s.L.length : Int) + s.R.length + s.C.length) = sizeW s := by unfold sizeW; omega
  have fin : leastW t w = some s → P.ok (Kd.fz, D.tup [.str (Str.ofString "wall"), .int w, .lst (sortW (s.L.map gramD)), .lst (sortW (s.R.map gramD)), .lst (sortW (s.C.map ctxD))]) [tabL t, D.int ↑w] := by
    intro e
    rw [e] at h
    exact h
  simp [fndD, fD_l, fD_r, fD_c]
  rw [hsz]
  rcases hc with ⟨hc, hl, hz⟩ | ⟨rfl, hl⟩
  · rw [if_pos hc]
    by_cases c1 : (s.C.length : Int) < 62
    · rw [if_pos c1]
      cases m with
      | zero => unfold sizeW at hz; omega
      | succ m =>
        rw [loopL, if_neg (by omega)] at hl
        refine for_inv (fun i r => ∃ (s' : Wl) (x5 x6 x7 x8 x9 x10 : Option D), r = stF t w s' (sizeW s) x5 x6 x7 x8 x9 x10 ∧ passW t (s.C.drop i) s' = passW t s.C s ∧ wOk w st sg s' ∧ s'.L.length ≤ 61 + i ∧ s'.R.length ≤ 61 + i ∧ s'.C.length ≤ 61 + i * 122) ⟨s, x5, x6, x7, x8, x9, x10, rfl, by simp, ho, by omega, by omega, by omega⟩ ?_ ?_
        · rintro r ⟨s', y5, y6, y7, y8, y9, y10, rfl, hp, ho', _⟩
          rw [List.length_map, List.drop_length] at hp
          have e : passW t s.C s = some s' := by rw [← hp]; rfl
          rw [e] at hl
          have a3 := passW_ofC (fun _ h => h) hf e
          have a4 := passW_siz e
          refine ⟨m, by omega, s', sizeW s, ⟨y5, y6, y7, y8, y9, y10, rfl⟩, ho', a3, ?_⟩
          by_cases c2 : sizeW s' = sizeW s
          · simp only [c2, if_true] at hl
            exact .inr ⟨by omega, hl.symm⟩
          · simp only [c2, if_false] at hl
            exact .inl ⟨by omega, hl, by omega⟩
        · rintro i d r hd ⟨s', y5, y6, y7, y8, y9, y10, rfl, hp, ho', l1, l2, l3⟩
          rw [List.getElem?_map] at hd
          cases ex : s.C[i]? with
          | none => rw [ex] at hd; cases hd
          | some x =>
            rw [ex] at hd
            cases hd
            have hlt := (List.getElem?_eq_some_iff.mp ex).1
            have hx := ho.c x (List.mem_of_getElem? ex)
            have hdr : s.C.drop i = x :: s.C.drop (i + 1) := by
              rw [List.drop_eq_getElem_cons hlt]
              congr 1
              exact (List.getElem?_eq_some_iff.mp ex).2
            rw [hdr, passW] at hp
            simp [fndD, oIxX_F, fV_l, fV_r]
            refine ⟨rfl, ?_⟩
            refine ⟨t, w, st, sg, x, s'.L, s'.R, rfl, ht, ⟨hw, hw'⟩, hx, ⟨ho'.l, ho'.r⟩, ⟨by omega, by omega⟩, ?_⟩
            simp [noD_behN]
            cases e : entAt t x.q x.s with
            | none =>
              have e0 : stepW t x s' = none := by unfold stepW; rw [e]
              rw [e0] at hp
              rw [← hp] at hl
              rw [← hl] at h
              simpa [behN, e, wallO] using h
            | some en =>
              obtain ⟨wr, d, q⟩ := en
              have e0 : stepW t x s' = some { putW d x s' with C := putsS (behindW t x (putW d x s').L (putW d x s').R) s'.C } := by unfold stepW; rw [e]
              rw [e0] at hp
              obtain ⟨k1, _⟩ := stepW_ok ht hw hx ho' e0
              have kb := behindW_put (s := s') e
              rw [kb] at hp k1
              have k3 := putW_len (d := d) (c := x) (s := s')
              have k4 := behind_len2 (t := t) (c := x) (L := s'.L) (R := s'.R) (m := 122) (by omega) (by omega)
              have k5 := (putsS_len (ys := behindW t x s'.L s'.R) (xs := s'.C)).2
              cases d with
              | true =>
                simp [behN, e, fD_l, putSG]
                refine ⟨by omega, ?_⟩
                refine putsF_loop (t := t) (w := w) (s := putW true x s') (z := (sizeW s : Int)) (x5 := some (ctxD x)) (x6 := some (.tup [.str "l", gramD x.l, .lst ((behindW t x s'.L s'.R).map ctxD)])) (x7 := some (.str "l")) (x8 := some (gramD x.l)) (x9 := some (.lst ((behindW t x s'.L s'.R).map ctxD))) (x10 := y10) (by rw [putW_C]; omega) fun c => ?_
                rw [putW_C]
                exact ⟨_, ⟨_, _, _, _, _, _, rfl⟩, hp, k1, by simp only; omega, by simp only; omega, by simp only; omega⟩
              | false =>
                simp [behN, e, fD_r, putSG]
                refine ⟨by omega, ?_⟩
                refine putsF_loop (t := t) (w := w) (s := putW false x s') (z := (sizeW s : Int)) (x5 := some (ctxD x)) (x6 := some (.tup [.str "r", gramD x.r, .lst ((behindW t x s'.L s'.R).map ctxD)])) (x7 := some (.str "r")) (x8 := some (gramD x.r)) (x9 := some (.lst ((behindW t x s'.L s'.R).map ctxD))) (x10 := y10) (by rw [putW_C]; omega) fun c => ?_
                rw [putW_C]
                exact ⟨_, ⟨_, _, _, _, _, _, rfl⟩, hp, k1, by simp only; omega, by simp only; omega, by simp only; omega⟩
    · rw [if_neg c1]
      have e : leastW t w = some s := by
        rw [← hl]
        cases m with
        | zero => rfl
        | succ m => rw [loopL, if_pos (by omega)]
      exact ⟨sortG ho.l hw, sortG ho.r hw, sortX, fin e⟩
  · rw [if_neg (by omega)]
    exact ⟨sortG ho.l hw, sortG ho.r hw, sortX, fin hl⟩
end My

namespace My
open PySem PySem.Spec PyProof.Rows L2 VL
/-! ### k50: walls told as one's own, asked -/
def wallK : Option Wl → Kd
  | none => .fz
  | some _ => .new (.T [.F, .F, .L .F, .L .F, .L .F])
def W_wall_ofN (A : Cs) : DF := fun ds P => ∃ (t : Tab) (st sg : Nat) (w most : Int), ds = [machD A t, .int w, .int most] ∧ TabOk t st sg ∧ ((w < 1 ∧ P.ex A.C_NoWidth [] ds) ∨ ∃ n : Nat, w = n ∧ (0 < n ∧ n ≤ 1000) ∧ most ≤ 200 ∧ P.ok (wallK (wallR t n most), wallO n (wallR t n most)) ds)
def W__law_refused (A : Cs) : DF := fun ds P => ∃ (t : Tab) (st sg : Nat) (w : Int), ds = [machD A t, .int w] ∧ TabOk t st sg ∧ w < 1 ∧ P.ok (.fz, .bl true) ds
def W__law_fits (A : Cs) : DF := fun ds P => ∃ (t : Tab) (st sg w : Nat) (most : Int), ds = [machD A t, .int w, .int most, wallO w (leastW t w)] ∧ TabOk t st sg ∧ (0 < w ∧ w ≤ 1000) ∧ most ≤ 61 ∧ P.ok (.fz, .bl true) ds
def W__law_one (A : Cs) : DF := fun ds P => ∃ (ns : List Int) (a : Int), ds = [.scr ns, .lst [.int a]] ∧ (0 ≤ a ∧ a ≤ 800000000) ∧ ∀ a' : Int, a ≤ a' → a' ≤ a + 20000 → P.ok (.fz, .bl true) [.scr ns, .lst [.int a']]
theorem wallofN_i {A : Cs} {P : Pf} {t : Tab} {st sg w : Nat} {most : Int} (ht : TabOk t st sg) (hw : 0 < w ∧ w ≤ 1000) (hm : most ≤ 200) (h : P.ok (wallK (wallR t w most), wallO w (wallR t w most)) [machD A t, .int w, .int most]) : W_wall_ofN A [machD A t, .int w, .int most] P := ⟨t, st, sg, w, most, rfl, ht, .inr ⟨w, rfl, hw, hm, h⟩⟩
theorem fits50_i {A : Cs} {P : Pf} {t : Tab} {st sg w : Nat} {most : Int} (ht : TabOk t st sg) (hw : 0 < w ∧ w ≤ 1000) (hm : most ≤ 61) (h : P.ok (.fz, .bl true) [machD A t, .int w, .int most, wallO w (leastW t w)]) : W__law_fits A [machD A t, .int w, .int most, wallO w (leastW t w)] P := ⟨t, st, sg, w, most, rfl, ht, hw, hm, h⟩
theorem refused50_i {A : Cs} {P : Pf} {t : Tab} {st sg : Nat} {w : Int} (ht : TabOk t st sg) (hw : w < 1) (h : P.ok (.fz, .bl true) [machD A t, .int w]) : W__law_refused A [machD A t, .int w] P := ⟨t, st, sg, w, rfl, ht, hw, h⟩
theorem one50_i {A : Cs} {P : Pf} {ns : List Int} {a : Int} (ha : 0 ≤ a ∧ a ≤ 800000000) (h : ∀ a' : Int, a ≤ a' → a' ≤ a + 20000 → P.ok (.fz, .bl true) [.scr ns, .lst [.int a']]) : W__law_one A [.scr ns, .lst [.int a]] P := ⟨ns, a, rfl, ha, h⟩
theorem least50_i {A : Cs} {P : Pf} {t : Tab} {st sg w : Nat} (ht : TabOk t st sg) (hw : 0 < w ∧ w ≤ 1000) (h : P.ok (.fz, wallO w (leastW t w)) [tabL t, .int w]) : W__law_least A [tabL t, .int w] P := ⟨t, st, sg, w, rfl, ht, hw, h⟩
theorem wall_sh {w : Nat} {s : Wl} (hw : w ≤ 1000) (hL : s.L.length ≤ 1000) (hR : s.R.length ≤ 1000) (hC : s.C.length ≤ 1000) (gl : ∀ g ∈ s.L, g.length = w) (gr : ∀ g ∈ s.R, g.length = w) (gc : ∀ c ∈ s.C, c.l.length = w ∧ c.r.length = w) : shI 5 (wallO w (some s)) = true := by
  have g1 : ∀ (g : Gram) (k : Nat), g.length = w → shI (k + 1) (gramD g) = true := fun g k h => by
    simp [gramD, shI, h]
    omega
  have c1 : ∀ c ∈ s.C, shI 3 (ctxD c) = true := fun c hc => by
    have := gc c hc
    simp [ctxD, shI]
    exact ⟨g1 _ 1 this.1, g1 _ 1 this.2⟩
  unfold wallO sortW
  simp [shI, List.length_mergeSort, List.mem_mergeSort]
  refine ⟨⟨by omega, fun g hg => g1 g 2 (gl g hg)⟩, ⟨by omega, fun g hg => g1 g 2 (gr g hg)⟩, by omega, c1⟩
end My

/-! arguments that are handed over for good; tuples of one's own taken apart -/
namespace VL
open PySem PySem.Spec PyProof.Rows L2
section
variable {K : PySem.W.Frag} {W : WX} {G G' H H' H0 : Hp} {σ : L2.St} {ρ : Rho} {f f' : Own} {pin : Nat → Option V} {X : Cx} {S S0 S1 S2 T T1 T2 U : Sta} {E : En} {Z : Ends}
/-! ### a, b, .. = a tuple of one's own -/
def gNames : List Nat → TGs
  | [] => gNil
  | i :: is => gCons (gName i) (gNames is)
def asgO : List Nat → List Md → List D → Rho → (Rho → Prop) → Prop
  | [], [], [], ρ, q => q ρ
  | i :: is, m :: ms, d :: ds, ρ, q => notP m = true ∧ okSlot ρ i = true ∧ asgO is ms ds (ρ.set i (some (m, d))) q
  | _, _, _, _, _ => False
def asgT (is : List Nat) (x : Kd × D) (ρ : Rho) (q : Rho → Prop) : Prop := match x with
  | (.new (.T ms), .tup ds) => asgO is ms ds ρ q
  | _ => False
def wAsgO (is : List Nat) (we : DE (Kd × D)) : DS := fun E ρ => we ρ ⟨fun _ x ρ' => asgT is x ρ' E.nx, E.ex⟩
theorem RS.lenV {ms : List Md} {vs : List V} {ds : List D} {fp : List Addr} (h : RS K G H ms vs ds fp) : vs.length = ds.length ∧ ms.length = ds.length := by
  induction ds generalizing ms vs fp with
  | nil => cases h; exact ⟨rfl, rfl⟩
  | cons d ds ih =>
    cases h with
    | cons _ t =>
      have := ih t
      simp [this]
@[simp ↓] theorem wAsgO_eq {is : List Nat} {we : DE (Kd × D)} : wAsgO is we E ρ = we ρ ⟨fun _ x ρ' => asgT is x ρ' E.nx, E.ex⟩ := rfl
@[simp ↓] theorem asgT_eq {is : List Nat} {ms : List Md} {ds : List D} {q : Rho → Prop} : asgT is (.new (.T ms), .tup ds) ρ q = asgO is ms ds ρ q := rfl
@[simp ↓] theorem asgO_n {q : Rho → Prop} : asgO [] [] [] ρ q = q ρ := rfl
@[simp ↓] theorem asgO_c {i : Nat} {is : List Nat} {m : Md} {ms : List Md} {d : D} {ds : List D} {q : Rho → Prop} : asgO (i :: is) (m :: ms) (d :: ds) ρ q = (notP m = true ∧ stK i (m, d) ρ fun ρ' => asgO is ms ds ρ' q) := rfl

/-! ### defs whose parameters are handed over for good -/
def keepM : Md → Bool
  | .F => true
  | .P _ => true
  | _ => false
def zrM : List Md → List D → Rho
  | m :: ms, d :: ds => (if keepM m = true then some (m, d) else none) :: zrM ms ds
  | _, _ => []
def spM (K : PySem.W.Frag) (ms : List Md) (Wf : DF) : Sp := fun vs H Q E =>
  ∃ (S : Sta) (ds : List D) (P : Pf), S.H = H ∧ S.σ = vs.map some ∧ S.pin = (fun i => vs[i]?) ∧ vs.length = ms.length ∧ ds.length = ms.length ∧ S.ρ = zr ms ds ∧ S.ok K ∧ Wf ds P ∧
    (∀ x ds' (T : Sta), P.ok x ds' → ds'.length = ms.length → T.σ = vs.map some → T.ρ = zrM ms ds' → T.ok K → S.to T → retK x.1 = true → ∀ v : V, Has K S T x.1 v x.2 → Q v T.H) ∧
    (∀ C fl ds' (T : Sta), P.ex C fl ds' → ds'.length = ms.length → T.σ = vs.map some → T.ρ = zrM ms ds' → T.ok K → S.to T → ∀ dd : Option Addr, XD K T.G T.H dd fl → E (.ref C) dd T.H)
def finM : List Md → List D → Rho → (List D → Prop) → Prop
  | [], _, _, q => q []
  | .P m :: ms, _ :: ds, some (.P m', d) :: ρ, q => m' = m ∧ finM ms ds ρ fun r => q (d :: r)
  | .P _ :: _, _, _, _ => False
  | _ :: ms, d :: ds, _ :: ρ, q => finM ms ds ρ fun r => q (d :: r)
  | _, _, _, _ => False
def endsM (ms : List Md) (ds : List D) (P : Pf) : En where
  nx := fun ρ => finM ms ds ρ fun ds' => P.ok (.fz, .non) ds'
  rt := fun x ρ => retK x.1 = true ∧ finM ms ds ρ fun ds' => P.ok x ds'
  bk := fun _ => False
  ct := fun _ => False
  ex := fun C fl ρ => finM ms ds ρ fun ds' => P.ex C fl ds'
variable {P : Program} {w : World} {mg : Str → Option Value} {base : Heap}
/-! the call -/
theorem RS.split : ∀ {ms : List Md} {vs : List V} {ds : List D} {fp : List Addr}, RS K G H ms vs ds fp → fp.Nodup → ∃ fA : Own, (∀ k m v d, ms[k]? = some m → vs[k]? = some v → ds[k]? = some d → R K G H m v d (fA k)) ∧ (∀ k a, a ∈ fA k → a ∈ fp) ∧ (∀ k, (fA k).Nodup) ∧ (∀ i j a, a ∈ fA i → a ∈ fA j → i = j) ∧ ∀ k, ms.length ≤ k → fA k = []
  | [], _, _, _, h, _ => by
    cases h
    exact ⟨fun _ => [], fun k m v d e => by simp at e, fun _ _ h => (nomatch h), fun _ => List.nodup_nil, fun _ _ _ h => (nomatch h), fun _ _ => rfl⟩
  | m0 :: ms, _, _, _, h, n => by
    cases h with
    | @cons _ _ v0 d0 vs ds fq fr r1 r2 =>
      have nn := List.nodup_append.mp n
      obtain ⟨fA, g1, g2, g3, g4, g5⟩ := RS.split r2 nn.2.1
      refine ⟨fun k => match k with | 0 => fq | k + 1 => fA k, fun k m v d e1 e2 e3 => ?_, fun k a ha => ?_, fun k => ?_, fun i j a hi hj => ?_, fun k hk => ?_⟩
      · cases k with
        | zero => simp at e1 e2 e3; subst e1; subst e2; subst e3; exact r1
        | succ k => exact g1 k m v d (by simpa using e1) (by simpa using e2) (by simpa using e3)
      · cases k with
        | zero => exact List.mem_append_left _ ha
        | succ k => exact List.mem_append_right _ (g2 k a ha)
      · cases k with
        | zero => exact nn.1
        | succ k => exact g3 k
      · cases i with
        | zero =>
          cases j with
          | zero => rfl
          | succ j => exact absurd rfl (nn.2.2 a hi a (g2 j a hj))
        | succ i =>
          cases j with
          | zero => exact absurd rfl (nn.2.2 a hj a (g2 i a hi))
          | succ j => rw [g4 i j a hi hj]
      · cases k with
        | zero => simp at hk
        | succ k => exact g5 k (by simpa using hk)
def mdsN (xs : List (Kd × D)) : List Md := xs.map fun x => mdN x.1
def notPs (xs : List (Kd × D)) : Bool := xs.all fun x => notP (mdN x.1)
def wCallN (ms : List Md) (Wf : DF) (wa : DE (List (Kd × D))) : DE (Kd × D) := fun ρ P => wa ρ ⟨fun p xs ρ1 => (mdsN xs = ms ∧ notPs xs = true) ∧ Wf (xs.map (·.2)) ⟨fun z _ => P.ok p z ρ1, fun C fl _ => P.ex C fl ρ1⟩, P.ex⟩
@[simp ↓] theorem wCallN_eq {ms : List Md} {Wf : DF} {wa : DE (List (Kd × D))} {P : Po (Kd × D)} : wCallN ms Wf wa ρ P = wa ρ ⟨fun p xs ρ1 => (mdsN xs = ms ∧ notPs xs = true) ∧ Wf (xs.map (·.2)) ⟨fun z _ => P.ok p z ρ1, fun C fl _ => P.ex C fl ρ1⟩, P.ex⟩ := rfl
@[simp] theorem mdsN_eq {xs : List (Kd × D)} : mdsN xs = xs.map fun x => mdN x.1 := rfl
@[simp] theorem notPs_eq {xs : List (Kd × D)} : notPs xs = xs.all fun x => notP (mdN x.1) := rfl
@[simp ↓] theorem endsM_nx {ms : List Md} {ds : List D} {F : Pf} {ρ : Rho} : (endsM ms ds F).nx ρ = finM ms ds ρ fun ds' => F.ok (.fz, .non) ds' := rfl
@[simp ↓] theorem endsM_rt {ms : List Md} {ds : List D} {F : Pf} {x : Kd × D} {ρ : Rho} : (endsM ms ds F).rt x ρ = (retK x.1 = true ∧ finM ms ds ρ fun ds' => F.ok x ds') := rfl
@[simp ↓] theorem endsM_ex {ms : List Md} {ds : List D} {F : Pf} {C : Addr} {fl : List (Str × D)} {ρ : Rho} : (endsM ms ds F).ex C fl ρ = finM ms ds ρ fun ds' => F.ex C fl ds' := rfl
@[simp ↓] theorem finM_n {ds : List D} {ρ : Rho} {q : List D → Prop} : finM [] ds ρ q = q [] := rfl
@[simp ↓] theorem finM_F {ms : List Md} {d : D} {ds : List D} {x : Option (Md × D)} {ρ : Rho} {q : List D → Prop} : finM (.F :: ms) (d :: ds) (x :: ρ) q = finM ms ds ρ fun r => q (d :: r) := rfl
@[simp ↓] theorem finM_T {ns ms : List Md} {d : D} {ds : List D} {x : Option (Md × D)} {ρ : Rho} {q : List D → Prop} : finM (.T ns :: ms) (d :: ds) (x :: ρ) q = finM ms ds ρ fun r => q (d :: r) := rfl
/-! a, b = s[0], s[1]; t = t + s[2]; s a tuple of one's own whose first thing goes to a -/
def partK (i a b t : Nat) (ρ : Rho) (q : Rho → Prop) : Prop := match ρ[i]? with
  | some (some (.T [m0, .F, .F], .tup [d0, d1, .int n])) => notP m0 = true ∧ okSlot (ρ.set i none) a = true ∧ okSlot ((ρ.set i none).set a (some (m0, d0))) b = true ∧
    okSlot (((ρ.set i none).set a (some (m0, d0))).set b (some (.F, d1))) t = true ∧ ∃ (md : Md) (k : Int), (((ρ.set i none).set a (some (m0, d0))).set b (some (.F, d1)))[t]? = some (some (md, .int k)) ∧ q ((((ρ.set i none).set a (some (m0, d0))).set b (some (.F, d1))).set t (some (.F, .int (k + n))))
  | _ => False
def wPart (i a b t : Nat) : DS := fun E ρ => partK i a b t ρ E.nx
@[simp ↓] theorem wPart_eq {i a b t : Nat} : wPart i a b t E ρ = partK i a b t ρ E.nx := rfl
end
end VL

/-! a part of a tuple of one's own; a walk over such a tuple that uses its items up -/
namespace VL
open PySem PySem.Spec PyProof.Rows L2
section
variable {K : PySem.W.Frag} {W : WX} {G G' H H' H0 : Hp} {σ : L2.St} {ρ : Rho} {f f' : Own} {pin : Nat → Option V} {X : Cx} {S S0 S1 S2 T T1 T2 U : Sta} {E : En} {Z : Ends}
theorem RS.dropE : ∀ {ms : List Md} {xs : List V} {ds : List D} {fp : List Addr} (k : Nat), RS K G H ms xs ds fp → ∃ fq, RS K G H (ms.drop k) (xs.drop k) (ds.drop k) fq ∧ fq.Sublist fp
  | _, _, _, fp, 0, h => ⟨fp, h, List.Sublist.refl _⟩
  | _, _, _, _, _ + 1, .nil => ⟨[], .nil, List.Sublist.refl _⟩
  | _, _, _, _, k + 1, .cons h t => by
    obtain ⟨fq, h1, h2⟩ := RS.dropE k t
    exact ⟨fq, h1, h2.trans (List.sublist_append_right _ _)⟩
theorem RS.takeE : ∀ {ms : List Md} {xs : List V} {ds : List D} {fp : List Addr} (k : Nat), RS K G H ms xs ds fp → ∃ fq, RS K G H (ms.take k) (xs.take k) (ds.take k) fq ∧ fq.Sublist fp
  | _, _, _, _, 0, _ => ⟨[], by simpa using RS.nil, List.nil_sublist _⟩
  | _, _, _, _, _ + 1, .nil => ⟨[], .nil, List.Sublist.refl _⟩
  | _, _, _, _, k + 1, .cons h t => by
    obtain ⟨fq, h1, h2⟩ := RS.takeE k t
    exact ⟨_, .cons h h1, (List.Sublist.refl _).append h2⟩
def cutM (ms : List Md) (lo hi : Option Int) : List Md := (ms.drop (HT.sIx ms.length 0 lo)).take (HT.sIx ms.length ms.length hi - HT.sIx ms.length 0 lo)
theorem cutM_all {ds : List Md} {lo hi : Option Int} (h : HT.sIx ds.length 0 lo = 0 ∧ HT.sIx ds.length ds.length hi = ds.length) : cutM ds lo hi = ds := by
  unfold cutM
  rw [h.1, h.2]
  simp
def oSlT (x : Kd × D) (lo hi : Option Int) (q : Kd × D → Prop) : Prop := match x with
  | (.new (.T ms), .tup ds) => q (.new (.T (cutM ms lo hi)), .tup (cutD ds lo hi))
  | _ => False
theorem ok_SlT {x : V} {dx : Kd × D} {lo hi : Option Int} {Q : VK} {q : Kd × D → Prop} (ok : S.ok K) (hx : Has K S0 S dx.1 x dx.2) (h : oSlT dx lo hi q) (k : ∀ z, q z → ∀ (v : V) (G' H' : Hp), Grow S.G S.H G' H' → Has K S0 (S.at G' H') z.1 v z.2 → Q v H') : rSlU K x lo hi S.H Q := by
  obtain ⟨kx, dx⟩ := dx
  unfold oSlT at h
  split at h
  case h_2 => exact h.elim
  rename_i ms ds e
  cases e
  have hx' := hx
  obtain ⟨fp, r, n, kf⟩ := hx
  cases r with
  | @T _ a xs _ _ hG rs =>
    obtain ⟨l1, l2⟩ := rs.lenV
    refine .inr (.inl ⟨a, xs, rfl, .inl (.inl (ok.ext _ _ hG)), fun e => ?_, fun _ p hp => ?_⟩)
    · rw [l1] at e
      rw [cut_all e, cutM_all (by rw [l2]; exact e)] at h
      exact k _ h (.ref a) S.G S.H (Grow.refl ok.ext) hx'
    · obtain ⟨f1, r1, s1⟩ := rs.dropE (HT.sIx xs.length 0 lo)
      obtain ⟨f2, r2, s2⟩ := r1.takeE (HT.sIx xs.length xs.length hi - HT.sIx xs.length 0 lo)
      have s3 := s2.trans s1
      have g := Grow.new (o := .tup (cutV xs lo hi)) ok.ext hp
      refine k _ h _ _ _ g ⟨f2, ?_, n.sublist s3, fun b hb => ⟨?_, (kf b (s3.subset hb)).2.1, (kf b (s3.subset hb)).2.2⟩⟩
      · refine .T (xs := cutV xs lo hi) upd_same ?_
        have e1 : cutM ms lo hi = (ms.drop (HT.sIx xs.length 0 lo)).take (HT.sIx xs.length xs.length hi - HT.sIx xs.length 0 lo) := by
          unfold cutM; rw [l2, ← l1]
        have e2 : cutD ds lo hi = (ds.drop (HT.sIx xs.length 0 lo)).take (HT.sIx xs.length xs.length hi - HT.sIx xs.length 0 lo) := by
          unfold cutD; rw [← l1]
        rw [e1, e2]
        refine r2.keep (g.to (S := S)).stp.gext fun b hb o ho => ?_
        have : b ≠ p := fun z => by rw [z, hp] at ho; cases ho
        show upd S.H p _ b = some o
        rw [upd_ne this]
        exact ho
      · have hb' := rs.has b (s3.subset hb)
        have : b ≠ p := fun z => hb' (by rw [z]; exact hp)
        show upd S.G p _ b = none
        rw [upd_ne this]
        exact (kf b (s3.subset hb)).1
def wSlT (we : DE (Kd × D)) (wl wh : DE (Option Int)) : DE (Kd × D) := fun ρ P => we ρ ⟨fun p1 x ρ1 => wl ρ1 ⟨fun p2 lo ρ2 => wh ρ2 ⟨fun p3 hi ρ3 => hold x.1 (p2 ++ p3) = true ∧ oSlT x lo hi fun z => P.ok (p1 ++ (p2 ++ p3)) z ρ3, P.ex⟩, P.ex⟩, P.ex⟩
theorem te_slT {we : DE (Kd × D)} {wl wh : DE (Option Int)} {Q : VK} (h : te K W (wSlT we wl wh) σ H Q) : tSl (rSlU K) (te K W we) (tO K W wl) (tO K W wh) σ H Q := by
  obtain ⟨S, P, rfl, rfl, ok, w, k, ex⟩ := h
  refine ⟨S, _, rfl, rfl, ok, w, fun p1 x S1 w1 e1 ok1 t1 pr1 v1 h1 => ?_, ex⟩
  refine ⟨S1, _, e1, rfl, ok1, w1, fun p2 lo S2 w2 e2 ok2 t2 pr2 lo' h2 => ?_, fun C fl T e es okT tT dd hd => ex C fl T e es okT (t1.trans tT) dd hd⟩
  refine ⟨S2, _, e2, rfl, ok2, w2, fun p3 hi S3 w3 e3 ok3 t3 pr3 hi' h3 => ?_, fun C fl T e es okT tT dd hd => ex C fl T e es okT ((t1.trans t2).trans tT) dd hd⟩
  cases h2; cases h3
  have t13 := (t1.trans t2).trans t3
  refine ok_SlT (S0 := S) ok3 (h1.stp ok1 (t2.trans t3) (e3.trans e1.symm) (pr2.trans pr3) w3.1) w3.2 fun z qz v G' H' g hz => ?_
  exact k _ _ (S3.at G' H') qz e3 (Sta.grow ok3 g) (t13.trans g.to) ((pr1.trans (pr2.trans pr3)).add g.tch) v hz
theorem q_slT {e : Expr} {lo hi : Option Expr} {we : DE (Kd × D)} {wl wh : DE (Option Int)} {p2 pos : Pos} (he : PE X e (te X.K W we)) (hl : PO X lo (tO X.K W wl)) (hh : PO X hi (tO X.K W wh)) : PE X (.Subscript e (.Slice lo hi none p2) pos) (te X.K W (wSlT we wl wh)) :=
  PE.imp (pe_slice sl_any he hl hh) fun _ _ _ h => te_slT h
/-! ### the walk -/
/-- items that no slot holds -/
def Det (K : PySem.W.Frag) (S0 S : Sta) (ms : List Md) (xs : List V) (ds : List D) : Prop := ∃ fp, RS K S.G S.H ms xs ds fp ∧ fp.Nodup ∧ ∀ a ∈ fp, S.G a = none ∧ ¬ Ow S.f a ∧ Nw S0 a
theorem Det.stp {ms : List Md} {xs : List V} {ds : List D} (h : Det K S0 S ms xs ds) (s : S.to T) : Det K S0 T ms xs ds := by
  obtain ⟨fp, r, n, k⟩ := h
  refine ⟨fp, r.keep s.stp.gext fun a ha o q => s.stp.keep a o q (k a ha).2.1, n, fun a ha => ⟨?_, fun z => ?_, (k a ha).2.2⟩⟩
  · rw [s.stp.gold a (r.has a ha) (k a ha).2.1]; exact (k a ha).1
  · rcases s.stp.fnew a z with z | z
    · exact (k a ha).2.1 z
    · exact r.has a ha z
def forOK (x : Kd × D) (v : Nat) (b : DS) (E : En) (ρ : Rho) : Prop := match x with
  | (.new (.T ms), .tup ds) => ∃ I : Nat → Rho → Prop, I 0 ρ ∧
    (∀ j m d ρ2, ms[j]? = some m → ds[j]? = some d → I j ρ2 → notP m = true ∧ okSlot ρ2 v = true ∧ b { E with nx := I (j + 1), ct := I (j + 1), bk := E.nx } (ρ2.set v (some (m, d)))) ∧
    (∀ ρ2, I ds.length ρ2 → E.nx ρ2)
  | _ => False
def wForO (we : DE (Kd × D)) (v : Nat) (b : DS) : DS := fun E ρ => we ρ ⟨fun _ x ρ1 => forOK x v b E ρ1, E.ex⟩
theorem ts_forO {we : DE (Kd × D)} {v : Nat} {b : DS} (h : ts K W (wForO we v b) Z σ H) : tFor (iSeq K (te K W we)) (gName v) (ts K W b) Z σ H := by
  obtain ⟨S, E, rfl, rfl, ok, w, l⟩ := h
  unfold tFor iSeq
  refine te_in ok l w fun p x T e es okT t _ u hu => ?_
  obtain ⟨kd, d⟩ := x
  have e : forOK (kd, d) v b E T.ρ := e
  unfold forOK at e
  split at e
  case h_2 => exact e.elim
  rename_i ms ds hx
  cases hx
  obtain ⟨I, i0, istep, iend⟩ := e
  obtain ⟨fp, r, n, k⟩ := hu
  cases r with
  | @T _ a xs _ _ hG rs =>
    obtain ⟨l1, l2⟩ := rs.lenV
    refine ⟨a, xs, rfl, .inr ⟨.inl (.inl (okT.ext _ _ hG)), ?_⟩⟩
    refine ⟨fun i n σ H => n + i = ds.length ∧ ∃ U : Sta, U.σ = σ ∧ U.H = H ∧ U.ok K ∧ S.to U ∧ U.G a = some (.tup xs) ∧ I i U.ρ ∧ Det K S U (ms.drop i) (xs.drop i) (ds.drop i), ⟨ds.length, rfl, T, es, rfl, okT, t, hG, i0, fp, rs, n, k⟩, ?_⟩
    rintro i n _ _ ⟨hn, U, rfl, rfl, okU, tU, gU, iU, dU⟩
    have hs : SqT K U.H a xs := .inl (.inl (okU.ext _ _ gU))
    by_cases c : i < ds.length
    · have cx : i < xs.length := by omega
      have cm : i < ms.length := by omega
      have hx : xs[i]? = some xs[i] := List.getElem?_eq_getElem cx
      refine .inr ⟨⟨xs, xs[i], hs, hx⟩, fun σ' H' => ∃ V : Sta, V.σ = σ' ∧ V.H = H' ∧ V.ok K ∧ S.to V ∧ V.G a = some (.tup xs) ∧ I (i + 1) V.ρ ∧ Det K S V (ms.drop (i + 1)) (xs.drop (i + 1)) (ds.drop (i + 1)), fun σ' H' hV => ⟨n - 1, by omega, by omega, hV⟩, fun x H2 hy => ?_⟩
      obtain ⟨rfl, hy⟩ := hy
      have hy := hy xs hs
      rw [hx] at hy
      cases hy
      rw [List.drop_eq_getElem_cons cm, List.drop_eq_getElem_cons cx, List.drop_eq_getElem_cons c] at dU
      obtain ⟨fq, r, nd, kd⟩ := dU
      cases r with
      | @cons _ _ _ _ _ _ f1 f2 r1 r2 =>
        obtain ⟨w1, w2, w3⟩ := istep i ms[i] ds[i] U.ρ (List.getElem?_eq_getElem cm) (List.getElem?_eq_getElem c) iU
        have nn := List.nodup_append.mp nd
        have k1 : ∀ a ∈ f1, U.G a = none ∧ ¬ Ow U.f a ∧ Nw S a := fun a ha => kd a (List.mem_append_left _ ha)
        have k2 : ∀ a ∈ f2, U.G a = none ∧ ¬ Ow U.f a ∧ Nw S a := fun a ha => kd a (List.mem_append_right _ ha)
        have s1 := Sx.put okU w2 w1 r1 nn.1 fun a h => ⟨(k1 a h).1, fun z => absurd z (k1 a h).2.1⟩
        have tV : S.to (U.put v xs[i] ms[i] ds[i] f1) := tU.put fun a h => (k1 a h).2.2
        have dV : Det K S (U.put v xs[i] ms[i] ds[i] f1) (ms.drop (i + 1)) (xs.drop (i + 1)) (ds.drop (i + 1)) := by
          refine ⟨f2, r2, nn.2.1, fun a ha => ⟨(k2 a ha).1, fun z => ?_, (k2 a ha).2.2⟩⟩
          obtain ⟨c, hc⟩ := z
          by_cases ci : c = v
          · subst ci
            have hc : a ∈ U.f.set c f1 c := hc
            rw [Own.set_same] at hc
            exact nn.2.2 a hc a ha rfl
          · have hc : a ∈ U.f.set v f1 c := hc
            rw [Own.set_ne ci] at hc
            exact (k2 a ha).2.1 ⟨c, hc⟩
        refine ⟨U.put v xs[i] ms[i] ds[i] f1, _, rfl, rfl, s1, w3, ?_⟩
        refine ⟨fun A hA okA tA => ⟨A, rfl, rfl, okA, tV.trans tA, tA.stp.gext _ _ gU, hA, dV.stp tA⟩, fun A e okA tA => l.nx A e okA (tV.trans tA), fun A hA okA tA => ⟨A, rfl, rfl, okA, tV.trans tA, tA.stp.gext _ _ gU, hA, dV.stp tA⟩, ?_, ?_⟩
        · exact fun x A e okA tA v hv => l.rt x A e okA (tV.trans tA) v (hv.from tV)
        · exact fun C fl A e okA tA dd hd => l.ex C fl A e okA (tV.trans tA) dd hd
    · have hi : i = ds.length := by omega
      refine .inl ⟨⟨xs, hs, by omega⟩, ?_⟩
      exact l.nx U (iend U.ρ (by rw [← hi]; exact iU)) okU tU
theorem q_forO {x : Str} {px : Pos} {iter : Expr} {body : List Stmt} {we : DE (Kd × D)} {v : Nat} {b : DS} {pos : Pos} (hp : PassesOwn (model X.prog X.w) X.A X.env X.xe) (hc : X.calm = true) (he : PE X iter (te X.K W we)) (hN : X.N.Nodup) (hb : PSs X body (ts X.K W b)) (hi : X.N[v]? = some x := by rfl) (hx : Loc X.env.scope x := by first | exact Or.inl rfl | exact Or.inr rfl)
    (hf : X.fn x = true ∨ X.env.scope.names.lookup x = some .local := by first | exact .inl rfl | exact .inr rfl | assumption) (hs : ∀ x, foldedSetIterable iter X.env x = pure x := by intro _; rfl) : PS X (.For (.Name x px) iter body [] pos) (ts X.K W (wForO we v b)) := PS.imp (ps_for hp hc (pi_seq he) (pg_name hN hi hx hf) hb hs) fun _ _ _ h => ts_forO h
@[simp ↓] theorem wSlT_eq {we : DE (Kd × D)} {wl wh : DE (Option Int)} {P : Po (Kd × D)} : wSlT we wl wh ρ P = we ρ ⟨fun p1 x ρ1 => wl ρ1 ⟨fun p2 lo ρ2 => wh ρ2 ⟨fun p3 hi ρ3 => hold x.1 (p2 ++ p3) = true ∧ oSlT x lo hi fun z => P.ok (p1 ++ (p2 ++ p3)) z ρ3, P.ex⟩, P.ex⟩, P.ex⟩ := rfl
@[simp ↓] theorem oSlT_eq {ms : List Md} {ds : List D} {lo hi : Option Int} {q : Kd × D → Prop} : oSlT (.new (.T ms), .tup ds) lo hi q = q (.new (.T (cutM ms lo hi)), .tup (cutD ds lo hi)) := rfl
@[simp ↓] theorem wForO_eq {we : DE (Kd × D)} {v : Nat} {b : DS} : wForO we v b E ρ = we ρ ⟨fun _ x ρ1 => forOK x v b E ρ1, E.ex⟩ := rfl
end
end VL

namespace My
open PySem PySem.Spec PyProof.Rows L2 VL
def w_wall_ofN (A : Cs) : DS :=
  wSeq (wIfS (wT (wOp (oB0 fun i j => decide (i < j)) (wVar 1) (wC (.int 1)))) (wRaise A.C_NoWidth) (wNext)) <|
  wSeq (wSet 3 (wFz (wOp oMulX (wTup (wCons (wC (.int 0)) (wNil))) (wVar 1)))) <|
  wSeq (wSet 4 (wDispN (wVar 3) (wC (.bl true)))) <|
  wSeq (wSet 5 (wDispN (wVar 3) (wC (.bl true)))) <|
  wSeq (wSet 6 (wDispN (wTup (wCons (wVar 3) (wCons (wC (.int 0)) (wCons (wC (.int 0)) (wCons (wVar 3) (wNil)))))) (wC (.bl true)))) <|
  wSeq (wSet 7 (wFz (wC (.int 1)))) <|
  wSeq (wWhile (wT (wOp (oB0 fun i j => decide (j < i)) (wVar 7) (wC (.int 0)))) (wSeq (wIfS (wT (wOp (oB0 fun i j => decide (j < i)) (wCB oLenX (wCons (wVar 6) (wNil))) (wVar 2))) (wRet (wC .non)) (wNext)) <|
  wSeq (wSet 7 (wFz (wCall [.F, .P (.N), .P (.N), .P (.N)] (W_grown_once A) [] (wCons (wVar 0) (wCons (wVar 4) (wCons (wVar 5) (wCons (wVar 6) (wNil)))))))) <|
  wIfS (wT (wOp oIsN (wVar 7) (wC .non))) (wRet (wC .non)) (wNext))) <|
  wRet (wTupO (wConsN (wC (.str "wall")) (wConsN (wVar 1) (wConsN (wCB oSortedX (wCons (wCB oListX (wCons (wVar 4) (wNil))) (wNil))) (wConsN (wCB oSortedX (wCons (wCB oListX (wCons (wVar 5) (wNil))) (wNil))) (wConsN (wCB oSortedX (wCons (wCB oListX (wCons (wVar 6) (wNil))) (wNil))) (wNilN)))))))

def w__law_refused (A : Cs) : DS :=
  wSeq (wSet 2 (wFz (wC .non))) <|
  wSeq (wTryK 3 2 A.C_NoWidth (wDrop (wCall [.F, .F, .F] (W_wall_ofN A) [] (wCons (wVar 0) (wCons (wVar 1) (wCons (wC (.int 9)) (wNil))))))) <|
  wSeq (wIfS (wOr (wT (wIsK A.C_NoWidth false (wVar 2))) (wNot (wT (wIsK A.C_NoWidth true (wVar 2))))) (wRet (wC (.bl false))) (wNext)) <|
  wRet (wIsK A.C_NoWidth true (wVar 2))

def w__law_fits (A : Cs) : DS :=
  wSeq (wSet 4 (wFz (wCall [.F, .F, .F] (W_wall_ofN A) [] (wCons (wVar 0) (wCons (wVar 1) (wCons (wVar 2) (wNil))))))) <|
  wSeq (wIfS (wOr (wT (wOp oIsN (wVar 3) (wC .non))) (wT (wOp (oB0 fun i j => decide (j < i)) (wCB oLen (wCons (wOp oIx (wVar 3) (wC (.int 4))) (wNil))) (wVar 2)))) (wRet (wOp oIsN (wVar 4) (wC .non))) (wNext)) <|
  wRet (wCall [.F, .F] (W__law_sameE A 6) [] (wCons (wVar 4) (wCons (wVar 3) (wNil))))

def w__law_one (A : Cs) : DS :=
  wSeq (wSet 2 (wFz (wCall [.F, .P (.L .F)] (W__law_nextR A) [] (wCons (wVar 0) (wCons (wVar 1) (wNil)))))) <|
  wSeq (wSet 3 (wFz (wOp oAdd (wC (.int 2)) (wOp (oI (fun _ j => 0 < j) fun i j => i % j) (wVar 2) (wC (.int 2)))))) <|
  wSeq (wSet 4 (wFz (wC (.int 1)))) <|
  wSeq (wIfS (wT (wOp oEq (wVar 3) (wC (.int 2)))) (wSet 4 (wFz (wOp oAdd (wC (.int 1)) (wOp (oI (fun _ j => 0 < j) fun i j => i % j) (wOp (oI CDiv fun i j => i / j) (wVar 2) (wC (.int 2))) (wC (.int 3)))))) (wNext)) <|
  wSeq (wSet 5 (wFz (wCall [.F, .P (.L .F), .F, .F] (W__law_tableR A) [] (wCons (wVar 0) (wCons (wVar 1) (wCons (wOp oAdd (wC (.int 1)) (wOp (oI (fun _ j => 0 < j) fun i j => i % j) (wOp (oI CDiv fun i j => i / j) (wVar 2) (wC (.int 6))) (wC (.int 3)))) (wCons (wVar 3) (wNil)))))))) <|
  wSeq (wSet 6 (wFz (wMake A.C_Machine 1 [.F] (W_Machine_init A) [] (wCons (wVar 5) (wNil))))) <|
  wSeq (wSet 7 (wFz (wCall [.F, .F] (W__law_least A) [] (wCons (wVar 5) (wCons (wVar 4) (wNil)))))) <|
  wSeq (wIfS (wNot (wT (wCall [.F, .F, .F, .F] (W__law_fits A) [] (wCons (wVar 6) (wCons (wVar 4) (wCons (wOp oIx (wLst (wCons (wC (.int 0)) (wCons (wC (.int 1)) (wCons (wOp (oI (fun _ j => 0 < j) fun i j => i % j) (wOp (oI CDiv fun i j => i / j) (wVar 2) (wC (.int 100))) (wC (.int 60))) (wCons (wC (.int 60)) (wNil)))))) (wOp (oI (fun _ j => 0 < j) fun i j => i % j) (wOp (oI CDiv fun i j => i / j) (wVar 2) (wC (.int 20))) (wC (.int 4)))) (wCons (wVar 7) (wNil)))))))) (wRet (wC (.bl false))) (wNext)) <|
  wSeq (wIfS (wNot (wT (wCall [.F, .F] (W__law_refused A) [] (wCons (wVar 6) (wCons (wUn oNeg (wOp (oI (fun _ j => 0 < j) fun i j => i % j) (wOp (oI CDiv fun i j => i / j) (wVar 2) (wC (.int 100))) (wC (.int 3)))) (wNil)))))) (wRet (wC (.bl false))) (wNext)) <|
  wSeq (wIfS (wOr (wT (wOp oIsN (wVar 7) (wC .non))) (wT (wOp (oB0 fun i j => decide (j < i)) (wCB oLen (wCons (wOp oIx (wVar 7) (wC (.int 4))) (wNil))) (wC (.int 60))))) (wRet (wC (.bl true))) (wNext)) <|
  wSeq (wSet 8 (wFz (wCB oLen (wCons (wOp oIx (wVar 7) (wC (.int 4))) (wNil))))) <|
  wSeq (wSet 9 (wCall [.F, .F, .F] (W_wall_ofN A) [] (wCons (wVar 6) (wCons (wVar 4) (wCons (wVar 8) (wNil)))))) <|
  wSeq (wIfS (wOr (wNot (wT (wCallB 2 (W__law_sameE A 6) [] (wCons (wVar 9) (wCons (wVar 7) (wNil)))))) (wT (wOp oNotN (wCall [.F, .F, .F] (W_wall_ofN A) [] (wCons (wVar 6) (wCons (wVar 4) (wCons (wOp (oI0 fun i j => i - j) (wVar 8) (wC (.int 1))) (wNil))))) (wC .non)))) (wRet (wC (.bl false))) (wNext)) <|
  wSeq (wForO (wSlT (wMov 9) (wSo (wC (.int 2))) wNo) 10 (wDrop (wMut mApp (wVar 10) (wCons (wC .non) (wNil))))) <|
  wRet (wCall [.F, .F, .F, .F] (W__law_fits A) [] (wCons (wVar 6) (wCons (wVar 4) (wCons (wVar 8) (wCons (wVar 7) (wNil))))))

def w_law (A : Cs) : DS :=
  wSeq (wSet 1 (wLst (wCons (wC (.int 0)) (wNil)))) <|
  wSeq (wFor (wRng1 (wCons (wOp oAdd (wC (.int 1)) (wCB oMin2 (wCons (wC (.int 3)) (wCons (wOp (oI CDiv fun i j => i / j) (wCB oLen (wCons (wVar 0) (wNil))) (wC (.int 16))) (wNil))))) (wNil))) (wgN 2) (wIfS (wNot (wT (wCall [.F, .P (.L .F)] (W__law_one A) [] (wCons (wVar 0) (wCons (wVar 1) (wNil)))))) (wRet (wC (.bl false))) (wNext))) <|
  wRet (wC (.bl true))

end My

namespace My
open PySem PySem.Spec PyProof.Rows L2 VL
local macro_rules | `(tactic| simp $[[$args,*]]? $[$loc]?) => `(tactic| simp -implicitDefEqProofs $[[$args,*]]? $[$loc]?)
local macro_rules | `(tactic| simpa $[[$args,*]]? using $e) => `(tactic| simpa -implicitDefEqProofs $[[$args,*]]? using $e)
theorem d_wall_ofN (A : Cs) (ds : List D) (P : Pf) (h : W_wall_ofN A ds P) : w_wall_ofN A (endsOf [.F, .F, .F] ds P) (zr [.F, .F, .F] ds ++ List.replicate 5 none) := by
  obtain ⟨t, st, sg, w', most, rfl, ht, ⟨hw, h⟩ | ⟨w, rfl, ⟨hw, hw'⟩, hm, h⟩⟩ := h
  · simp only [zr_c, zr_n, List.replicate_succ, List.replicate_zero, List.cons_append, List.nil_append]
    unfold w_wall_ofN
    simp [hw]
    exact h
  simp only [zr_c, zr_n, List.replicate_succ, List.replicate_zero, List.cons_append, List.nil_append]
  unfold w_wall_ofN
  have c0 : ¬ ((w : Int) < 1) := by omega
  simp [c0]
  refine ⟨by omega, ?_⟩
  have eb : D.tup (List.replicate w (D.int 0)) = gramD (blankG w) := by unfold gramD blankG; rw [List.map_replicate]
  have ec' : D.tup [gramD (blankG w), .int 0, .int 0, gramD (blankG w)] = ctxD ⟨blankG w, 0, 0, blankG w⟩ := rfl
  simp [eb]
  rw [ec']
  simp
  refine ⟨fun m r => ∃ (s : Wl) (came : Int), r = stL A t w most s came ∧ wOk w st sg s ∧ ofC s ∧ ((0 < came ∧ loopW t most m s = wallR t w most ∧ 3 * most.toNat + 10 ≤ m + sizeW s) ∨ (came = 0 ∧ wallR t w most = some s)), ⟨3 * most.toNat + 10, wl0 w, 1, rfl, wl0_ok ht, wl0_ofC, .inl ⟨by omega, rfl, by omega⟩⟩, ?_⟩
  rintro m r ⟨s, came, rfl, ho, hf, hc⟩
  have hlen := hf.len ho
  simp
  rcases hc with ⟨hc, hl, hz⟩ | ⟨rfl, hl⟩
  · rw [if_pos hc]
    by_cases c1 : most < s.C.length
    · have e : wallR t w most = none := by
        rw [← hl]
        cases m with
        | zero => rfl
        | succ m => rw [loopW, if_pos c1]
      rw [e] at h
      simpa [c1, wallO, wallK] using h
    · cases m with
      | zero => unfold sizeW at hz; omega
      | succ m =>
        rw [loopW, if_neg c1] at hl
        simp [c1]
        refine grown_i ht hw (by omega) ho (by omega) (by omega) (by omega) ?_
        cases e : passW t s.C s with
        | none =>
          rw [e] at hl
          rw [← hl] at h
          intro s'
          simpa [wlD, wallO, wallK] using h
        | some s' =>
          rw [e] at hl
          have hz' := passW_size e
          obtain ⟨a1, a2⟩ := passW_ok ht hw ho.c ho e
          have a3 := passW_ofC (fun _ h => h) hf e
          simp [wlD]
          refine ⟨m, by omega, s', _, ⟨rfl, rfl, rfl, rfl⟩, a1, a3, ?_⟩
          by_cases c2 : sizeW s' = sizeW s
          · simp only [c2, if_true] at hl
            exact .inr ⟨by omega, hl.symm⟩
          · simp only [c2, if_false] at hl
            exact .inl ⟨by omega, hl, by omega⟩
  · rw [if_neg (by omega)]
    rw [hl] at h
    exact ⟨sortG ho.l hw, sortG ho.r hw, sortX, h⟩
theorem d__law_refused (A : Cs) (ds : List D) (P : Pf) (h : W__law_refused A ds P) : w__law_refused A (endsOf [.F, .F] ds P) (zr [.F, .F] ds ++ List.replicate 2 none) := by
  obtain ⟨t, st, sg, w, rfl, ht, hw, h⟩ := h
  simp only [zr_c, zr_n, List.replicate_succ, List.replicate_zero, List.cons_append, List.nil_append]
  unfold w__law_refused
  simp
  refine ⟨t, st, sg, w, 9, rfl, ht, .inl ⟨hw, ?_⟩⟩
  simp
  exact ⟨by simp [okSlot], h⟩
theorem len4 {w : Nat} {s : Wl} : ∃ a b c : List D, wallO w (some s) = .tup [.str "wall", .int w, .lst a, .lst b, .lst c] ∧ c.length = s.C.length ∧ a.length = s.L.length ∧ b.length = s.R.length := ⟨_, _, _, rfl, by unfold sortW; simp, by unfold sortW; simp, by unfold sortW; simp⟩
theorem least_sh {t : Tab} {w st sg : Nat} (ht : TabOk t st sg) (hw : 0 < w ∧ w ≤ 1000) {most : Int} (hm : most ≤ 61) {u : Wl} (e : wallR t w most = some u) : shI 5 (wallO w (some u)) = true := by
  have k := wallR_ok ht hw.1 e
  have hl := k.o.len k.ok
  have hn := k.n
  refine wall_sh hw.2 (by omega) (by omega) (by omega) (fun g hg => (k.ok.l g hg).1) (fun g hg => (k.ok.r g hg).1) fun c hc => ⟨(k.ok.c c hc).l.1, (k.ok.c c hc).r.1⟩
theorem d__law_fits (A : Cs) (ds : List D) (P : Pf) (h : W__law_fits A ds P) : w__law_fits A (endsOf [.F, .F, .F, .F] ds P) (zr [.F, .F, .F, .F] ds ++ List.replicate 1 none) := by
  obtain ⟨t, st, sg, w, most, rfl, ht, hw, hm, h⟩ := h
  simp only [zr_c, zr_n, List.replicate_succ, List.replicate_zero, List.cons_append, List.nil_append]
  unfold w__law_fits
  simp
  refine wallofN_i ht hw (by omega) ?_
  have hlw := least_wall ht hw.1 hm
  cases e : leastW t w with
  | none =>
    rw [e] at hlw h
    rw [hlw]
    simp [wallK, wallO] at h ⊢
    exact h
  | some u =>
    rw [e] at hlw h
    obtain ⟨a, b, c, e1, e2, _, _⟩ := len4 (w := w) (s := u)
    have hN : isN (wallO w (some u)) = false := rfl
    rcases hlw with ⟨h1, h2⟩ | ⟨h1, h2⟩
    · rw [h2]
      simp [wallK, hN]
      rw [e1] at h ⊢
      simp [e2, h1]
      exact h
    · have hs := least_sh ht hw hm h2
      rw [h2]
      simp [wallK, hN]
      rw [e1] at h hs ⊢
      simp [e2, show ¬ most < (u.C.length : Int) by omega]
      refine sameE_i hs ?_
      simp
      exact h
end My

namespace My
open PySem PySem.Spec PyProof.Rows L2 VL
local macro_rules | `(tactic| simp $[[$args,*]]? $[$loc]?) => `(tactic| simp -implicitDefEqProofs $[[$args,*]]? $[$loc]?)
local macro_rules | `(tactic| simpa $[[$args,*]]? using $e) => `(tactic| simpa -implicitDefEqProofs $[[$args,*]]? using $e)
theorem tableR_i {A : Cs} {P : Pf} {ns : List Int} {a : Int} {st sg : Nat} (ha : 0 ≤ a ∧ a ≤ 900000000) (h1 : 0 < st ∧ st ≤ 100) (h2 : 0 < sg ∧ sg ≤ 100) (h : ∀ (t : Tab) (a' : Int), TabOk t st sg → a ≤ a' → a' ≤ a + 10000 → P.ok (.new (.L .F), tabL t) [.scr ns, .lst [.int a'], .int st, .int sg]) : W__law_tableR A [.scr ns, .lst [.int a], .int st, .int sg] P := ⟨ns, a, st, sg, rfl, ha, h1, h2, h⟩
theorem at4 {x k : Int} (h0 : 0 ≤ x) (h1 : x < 60) (hk : 0 ≤ k ∧ k < 4) : ∃ v : Int, atI [D.int 0, D.int 1, D.int x, D.int 60] k = some (.int v) ∧ v ≤ 60 := by
  obtain ⟨k0, k1⟩ := hk
  have : k = 0 ∨ k = 1 ∨ k = 2 ∨ k = 3 := by omega
  rcases this with rfl | rfl | rfl | rfl
  · exact ⟨0, rfl, by omega⟩
  · exact ⟨1, rfl, by omega⟩
  · exact ⟨x, rfl, by omega⟩
  · exact ⟨60, rfl, by omega⟩
theorem d__law_one (A : Cs) (ds : List D) (P : Pf) (h : W__law_one A ds P) : w__law_one A (endsOf [.F, .P (.L .F)] ds P) (zr [.F, .P (.L .F)] ds ++ List.replicate 9 none) := by
  obtain ⟨ns, a, rfl, ha, h⟩ := h
  simp only [zr_c, zr_n, List.replicate_succ, List.replicate_zero, List.cons_append, List.nil_append]
  unfold w__law_one
  simp
  refine ⟨⟨by omega, by omega⟩, fun m hm0 hm1 => ?_⟩
  obtain ⟨sg, esg⟩ : ∃ sg : Nat, 2 + m % 2 = sg := ⟨(2 + m % 2).toNat, by omega⟩
  obtain ⟨st, est⟩ : ∃ st : Nat, 1 + m / 6 % 3 = st := ⟨(1 + m / 6 % 3).toNat, by omega⟩
  simp [est, esg]
  have hcd : ∀ n : Int, 0 < n → n < 100000 → CDiv m n := fun n h1 h2 => ⟨by omega, by omega⟩
  by_cases c : (sg : Int) = 2
  · rw [if_pos c]
    refine ⟨hcd _ (by omega) (by omega), hcd _ (by omega) (by omega), ?_⟩
    obtain ⟨w, ew⟩ : ∃ w : Nat, 1 + m / 2 % 3 = w := ⟨(1 + m / 2 % 3).toNat, by omega⟩
    rw [ew]
    have hw : 0 < w ∧ w ≤ 1000 := ⟨by omega, by omega⟩
    clear ew c
    refine tableR_i ⟨by omega, by omega⟩ ⟨by omega, by omega⟩ ⟨by omega, by omega⟩ fun t a' ht g1 g2 => ?_
    simp
    refine mach_i ht ?_
    simp
    refine least50_i ht hw ?_
    simp
    refine ⟨hcd _ (by omega) (by omega), hcd _ (by omega) (by omega), ?_⟩
    obtain ⟨v, ev, hv⟩ := at4 (x := m / 100 % 60) (k := m / 20 % 4) (Int.emod_nonneg _ (by omega)) (Int.emod_lt_of_pos _ (by omega)) ⟨Int.emod_nonneg _ (by omega), Int.emod_lt_of_pos _ (by omega)⟩
    simp [ev]
    refine fits50_i ht hw (by omega) ?_
    simp
    refine ⟨hcd _ (by omega) (by omega), ?_⟩
    refine refused50_i ht (by have := Int.emod_nonneg (m / 100) (show (3 : Int) ≠ 0 by omega); omega) ?_
    simp
    cases e : leastW t w with
    | none =>
      simp [wallO]
      exact h _ (by omega) (by omega)
    | some u =>
      obtain ⟨xa, xb, xc, e1, e2, e3, e4⟩ := len4 (w := w) (s := u)
      have hN : isN (wallO w (some u)) = false := rfl
      simp [hN]
      rw [e1]
      simp [e2]
      split
      · exact h _ (by omega) (by omega)
      · rename_i hc
        have hlw := least_wall ht hw.1 (most := (u.C.length : Int)) (by omega)
        have hlw1 := least_wall ht hw.1 (most := (u.C.length : Int) - 1) (by omega)
        rw [e] at hlw hlw1
        have r1 : wallR t w (u.C.length : Int) = some u := by
          rcases hlw with ⟨h1, _⟩ | ⟨_, h2⟩
          · omega
          · exact h2
        have r2 : wallR t w ((u.C.length : Int) - 1) = none := by
          rcases hlw1 with ⟨_, h2⟩ | ⟨h1, _⟩
          · exact h2
          · omega
        have hs := least_sh ht hw (by omega) r1
        refine wallofN_i ht hw (by omega) ?_
        rw [r1, e1]
        rw [e1] at hs
        simp [wallK]
        refine sameE_i hs ?_
        simp
        refine wallofN_i ht hw (by omega) ?_
        rw [r2]
        simp [wallK, wallO]
        have k := wallR_ok ht hw.1 r1
        have hl := k.o.len k.ok
        have cM : cutM [Md.F, Md.F, Md.F.L, Md.F.L, Md.F.L] (some 2) none = [.L .F, .L .F, .L .F] := rfl
        have cD : VL.cutD [D.str (Str.ofString "wall"), D.int ↑w, D.lst xa, D.lst xb, D.lst xc] (some 2) none = [D.lst xa, D.lst xb, D.lst xc] := rfl
        rw [cM, cD]
        refine ⟨fun j r => ∃ x : Option (Md × D), (x = none ∨ ∃ l, x = some (.L .F, .lst l)) ∧ r = [some (Md.F, D.scr ns), some (Md.F.L.P, D.lst [D.int a']), some (Md.F, D.int m), some (Md.F, D.int ↑sg), some (Md.F, D.int ↑w), some (Md.F, tabL t), some (Md.F, machD A t), some (Md.F, D.tup [D.str (Str.ofString "wall"), D.int ↑w, D.lst xa, D.lst xb, D.lst xc]), some (Md.F, D.int ↑u.C.length), none, x], ⟨none, .inl rfl, rfl⟩, ?_, ?_⟩
        · rintro j m' d ρ2 em ed ⟨x, hx, rfl⟩
          have ok : okSlot [some (Md.F, D.scr ns), some (Md.F.L.P, D.lst [D.int a']), some (Md.F, D.int m), some (Md.F, D.int ↑sg), some (Md.F, D.int ↑w), some (Md.F, tabL t), some (Md.F, machD A t), some (Md.F, D.tup [D.str (Str.ofString "wall"), D.int ↑w, D.lst xa, D.lst xb, D.lst xc]), some (Md.F, D.int ↑u.C.length), none, x] 10 = true := by
            rcases hx with rfl | ⟨l, rfl⟩ <;> rfl
          rcases j with _ | _ | _ | j
          · cases em; cases ed
            refine ⟨rfl, ok, ?_⟩
            simp
            omega
          · cases em; cases ed
            refine ⟨rfl, ok, ?_⟩
            simp
            omega
          · cases em; cases ed
            refine ⟨rfl, ok, ?_⟩
            simp
            omega
          · simp at em
        · rintro ρ2 ⟨x, hx, rfl⟩
          simp
          have e5 : D.tup [D.str (Str.ofString "wall"), D.int ↑w, D.lst xa, D.lst xb, D.lst xc] = wallO w (leastW t w) := by rw [e, e1]
          rw [e5]
          refine fits50_i ht hw (by omega) ?_
          simp
          exact h _ (by omega) (by omega)
  · rw [if_neg c]
    refine ⟨hcd _ (by omega) (by omega), ?_⟩
    obtain ⟨w, ew⟩ : ∃ w : Nat, (1 : Int) = w := ⟨1, rfl⟩
    have e4 : (some (Md.F, D.int 1)) = some (Md.F, D.int (w : Int)) := by rw [← ew]
    rw [e4]
    have hw : 0 < w ∧ w ≤ 1000 := ⟨by omega, by omega⟩
    clear e4 ew c
    refine tableR_i ⟨by omega, by omega⟩ ⟨by omega, by omega⟩ ⟨by omega, by omega⟩ fun t a' ht g1 g2 => ?_
    simp
    refine mach_i ht ?_
    simp
    refine least50_i ht hw ?_
    simp
    refine ⟨hcd _ (by omega) (by omega), hcd _ (by omega) (by omega), ?_⟩
    obtain ⟨v, ev, hv⟩ := at4 (x := m / 100 % 60) (k := m / 20 % 4) (Int.emod_nonneg _ (by omega)) (Int.emod_lt_of_pos _ (by omega)) ⟨Int.emod_nonneg _ (by omega), Int.emod_lt_of_pos _ (by omega)⟩
    simp [ev]
    refine fits50_i ht hw (by omega) ?_
    simp
    refine ⟨hcd _ (by omega) (by omega), ?_⟩
    refine refused50_i ht (by have := Int.emod_nonneg (m / 100) (show (3 : Int) ≠ 0 by omega); omega) ?_
    simp
    cases e : leastW t w with
    | none =>
      simp [wallO]
      exact h _ (by omega) (by omega)
    | some u =>
      obtain ⟨xa, xb, xc, e1, e2, e3, e4⟩ := len4 (w := w) (s := u)
      have hN : isN (wallO w (some u)) = false := rfl
      simp [hN]
      rw [e1]
      simp [e2]
      split
      · exact h _ (by omega) (by omega)
      · rename_i hc
        have hlw := least_wall ht hw.1 (most := (u.C.length : Int)) (by omega)
        have hlw1 := least_wall ht hw.1 (most := (u.C.length : Int) - 1) (by omega)
        rw [e] at hlw hlw1
        have r1 : wallR t w (u.C.length : Int) = some u := by
          rcases hlw with ⟨h1, _⟩ | ⟨_, h2⟩
          · omega
          · exact h2
        have r2 : wallR t w ((u.C.length : Int) - 1) = none := by
          rcases hlw1 with ⟨_, h2⟩ | ⟨h1, _⟩
          · exact h2
          · omega
        have hs := least_sh ht hw (by omega) r1
        refine wallofN_i ht hw (by omega) ?_
        rw [r1, e1]
        rw [e1] at hs
        simp [wallK]
        refine sameE_i hs ?_
        simp
        refine wallofN_i ht hw (by omega) ?_
        rw [r2]
        simp [wallK, wallO]
        have k := wallR_ok ht hw.1 r1
        have hl := k.o.len k.ok
        have cM : cutM [Md.F, Md.F, Md.F.L, Md.F.L, Md.F.L] (some 2) none = [.L .F, .L .F, .L .F] := rfl
        have cD : VL.cutD [D.str (Str.ofString "wall"), D.int ↑w, D.lst xa, D.lst xb, D.lst xc] (some 2) none = [D.lst xa, D.lst xb, D.lst xc] := rfl
        rw [cM, cD]
        refine ⟨fun j r => ∃ x : Option (Md × D), (x = none ∨ ∃ l, x = some (.L .F, .lst l)) ∧ r = [some (Md.F, D.scr ns), some (Md.F.L.P, D.lst [D.int a']), some (Md.F, D.int m), some (Md.F, D.int ↑sg), some (Md.F, D.int ↑w), some (Md.F, tabL t), some (Md.F, machD A t), some (Md.F, D.tup [D.str (Str.ofString "wall"), D.int ↑w, D.lst xa, D.lst xb, D.lst xc]), some (Md.F, D.int ↑u.C.length), none, x], ⟨none, .inl rfl, rfl⟩, ?_, ?_⟩
        · rintro j m' d ρ2 em ed ⟨x, hx, rfl⟩
          have ok : okSlot [some (Md.F, D.scr ns), some (Md.F.L.P, D.lst [D.int a']), some (Md.F, D.int m), some (Md.F, D.int ↑sg), some (Md.F, D.int ↑w), some (Md.F, tabL t), some (Md.F, machD A t), some (Md.F, D.tup [D.str (Str.ofString "wall"), D.int ↑w, D.lst xa, D.lst xb, D.lst xc]), some (Md.F, D.int ↑u.C.length), none, x] 10 = true := by
            rcases hx with rfl | ⟨l, rfl⟩ <;> rfl
          rcases j with _ | _ | _ | j
          · cases em; cases ed
            refine ⟨rfl, ok, ?_⟩
            simp
            omega
          · cases em; cases ed
            refine ⟨rfl, ok, ?_⟩
            simp
            omega
          · cases em; cases ed
            refine ⟨rfl, ok, ?_⟩
            simp
            omega
          · simp at em
        · rintro ρ2 ⟨x, hx, rfl⟩
          simp
          have e5 : D.tup [D.str (Str.ofString "wall"), D.int ↑w, D.lst xa, D.lst xb, D.lst xc] = wallO w (leastW t w) := by rw [e, e1]
          rw [e5]
          refine fits50_i ht hw (by omega) ?_
          simp
          exact h _ (by omega) (by omega)
theorem d_law (A : Cs) (ds : List D) (P : Pf) (h : W_law A ds P) : w_law A (endsOf [.F] ds P) (zr [.F] ds ++ List.replicate 2 none) := by
  obtain ⟨ns, rfl, hl, h⟩ := h
  simp only [zr_c, zr_n, List.replicate_succ, List.replicate_zero, List.cons_append, List.nil_append]
  unfold w_law
  simp
  refine ⟨⟨by omega, by omega⟩, ⟨by split <;> omega, by split <;> omega⟩, ?_⟩
  refine for_inv (fun i r => ∃ (a : Int) (b : Option D), r = [some (.F, .scr ns), some (.L .F, .lst [.int a]), fr b] ∧ 0 ≤ a ∧ a ≤ i * 20000) ⟨0, none, by simp [fr], by omega, by omega⟩ ?_ ?_
  · rintro r ⟨a, b, rfl, h1, h2⟩
    simpa using h
  · rintro i d r hd ⟨a, b, rfl, h1, h2⟩
    obtain ⟨hi, rfl⟩ := rangeD_get hd
    simp
    refine one50_i ⟨h1, by split at hi <;> omega⟩ fun a' h3 h4 => ?_
    simp
    exact ⟨by omega, by omega⟩
end My

/-! ranges of any numbers; "..".join(xs); texts put together -/
namespace VLL
open PySem PySem.Spec PyProof.Rows L2
section
variable {X : Cx} {tg : Expr}
def iRngL (ta : TA) : TI := fun σ H R => ta σ H fun vs H1 => ∃ i j : Int, vs = [.int i, .int j] ∧ R (Itr i (j - i).toNat) H1
end
end VLL
namespace VL
open PySem PySem.Spec PyProof.Rows L2
section
variable {K : PySem.W.Frag} {W : WX} {G G' H H' H0 : Hp} {σ : L2.St} {ρ : Rho} {X : Cx} {S S0 S1 T T1 T2 U : Sta} {E : En} {Z : Ends}
def rngL (xs : List (Kd × D)) (q : List D → Prop) : Prop := match xs with
  | [(_, .int i), (_, .int j)] => q (rangeD i (j - i).toNat)
  | _ => False
def wRngL (wa : DE (List (Kd × D))) : DE (List D) := fun ρ P => wa ρ ⟨fun p xs ρ' => rngL xs fun ds => P.ok p ds ρ', P.ex⟩
@[simp ↓] theorem wRngL_eq {wa : DE (List (Kd × D))} {P : Po (List D)} : wRngL wa ρ P = wa ρ ⟨fun p xs ρ' => rngL xs fun ds => P.ok p ds ρ', P.ex⟩ := rfl
@[simp ↓] theorem rngL_eq {k k' : Kd} {i j : Int} {q : List D → Prop} : rngL [(k, .int i), (k', .int j)] q = q (rangeD i (j - i).toNat) := rfl
/-! texts -/
def strsOf : List D → Option (List Str)
  | [] => some []
  | .str x :: r => match strsOf r with
    | some xs => some (x :: xs)
    | none => none
  | _ :: _ => none
@[simp] theorem strsOf_map {α : Type} {f : α → Str} : ∀ {xs : List α}, strsOf (xs.map fun x => D.str (f x)) = some (xs.map f)
  | [] => rfl
  | x :: xs => by simp [strsOf, strsOf_map (f := f) (xs := xs)]
def wJoin (a : Str) (we : DE (Kd × D)) : DE (Kd × D) := fun ρ P => we ρ ⟨fun p y ρ' => lstK y fun ds => optK (strsOf ds) fun ys => (ys.map (·.length)).sum + ys.length * a.length ≤ 100000 ∧ P.ok p (.fz, .str (Txt.join a ys)) ρ', P.ex⟩
@[simp ↓] theorem wJoin_eq {a : Str} {we : DE (Kd × D)} {P : Po (Kd × D)} : wJoin a we ρ P = we ρ ⟨fun p y ρ' => lstK y fun ds => optK (strsOf ds) fun ys => (ys.map (·.length)).sum + ys.length * a.length ≤ 100000 ∧ P.ok p (.fz, .str (Txt.join a ys)) ρ', P.ex⟩ := rfl
/-- x += y, texts -/
def oAddS : O2 := fun x y q => match x.2, y.2 with
  | .str a, .str b => small (a.length + b.length) = true ∧ q (.fz, .str (a ++ b))
  | _, _ => False
@[simp ↓] theorem oAddS_eq {k k' : Kd} {a b : Str} {q : Kd × D → Prop} : oAddS (k, .str a) (k', .str b) q = (small (a.length + b.length) = true ∧ q (.fz, .str (a ++ b))) := rfl
end
end VL

/-! try: .. except C1: .. except C2 as e: y = [.., ..][int(not isinstance(e, C1))] -/
namespace VLX
open PySem PySem.Spec PyProof.Rows L2
/-- the wishes of an exception: the class c1 is not bound, c2 is bound to slot i while its suite runs -/
def wTwo (K : PySem.W.Frag) (c1 c2 : Value) (i : Nat) (ts1 ts2 : Addr → Value → Option Addr → TS) (Wout : WX) (D : Ends) : WX := fun cls d σ H =>
  ∃ b, PySem.W.exmOne K cls c1 = some b ∧ (b = true → ∀ a, H a = none → ts1 a cls d D σ H) ∧ (b = false → wAs K c2 i ts2 Wout D cls d σ H)
section
variable {X : Cx} {x1 x2 n : Str} {c1 c2 : Value} {i : Nat} {body su1 su2 : List Stmt} {b1 b2 : Stmt} {np1 np2 hp1 hp2 pos : Pos} {tb : WX → TS} {ts1 ts2 : Addr → Value → Option Addr → TS} {Wout : WX}
end
end VLX
namespace VLX
open PySem PySem.Spec PyProof.Rows L2
/-- y = [z0, z1][int(not isinstance(e, C))], e in slot i: the exception a, no C -/
def tSel (i j : Nat) (z0 z1 : Str) (a : Addr) : TS := fun D σ H => σ[i]? = some (some (.ref a)) ∧ ∀ p, H p = none → D.nx (σ.set j (some (.str z1))) (upd H p (.lst [.str z0, .str z1]))
end VLX
namespace VL
open PySem PySem.Spec PyProof.Rows L2
section
variable {K : PySem.W.Frag} {W : WX} {σ : L2.St} {H : Hp} {X : Cx} {Z : Ends} {E : En} {ρ : Rho}
/-- try: b / except C1: su / except C2 as e: y = .. (the text z; e in slot i, y in slot j) -/
def wTryT (C1 C2 : Addr) (i j : Nat) (z : Str) (b su : DS) : DS := fun E ρ => b { E with ex := fun C fl ρ' => fl = [] ∧ ((C = C1 ∧ su { E with ex := fun _ _ _ => False } ρ') ∨ (C = C2 ∧ ρ'[i]? = some none ∧ okSlot ρ' j = true ∧ E.nx (ρ'.set j (some (.F, .str z))))) } ρ
@[simp ↓] theorem wTryT_eq {C1 C2 : Addr} {i j : Nat} {z : Str} {b su : DS} : wTryT C1 C2 i j z b su E ρ = b { E with ex := fun C fl ρ' => fl = [] ∧ ((C = C1 ∧ su { E with ex := fun _ _ _ => False } ρ') ∨ (C = C2 ∧ ρ'[i]? = some none ∧ okSlot ρ' j = true ∧ E.nx (ρ'.set j (some (.F, .str z))))) } ρ := rfl
end
end VL

/-! exceptions with an own __init__ and a field: raise C(x); try: .. except C1 as e: y = (z, e.f) except C2: .. -/
namespace VLX
open PySem PySem.Spec PyProof.Rows L2
/-- the wishes of an exception behind the first handler -/
def wOne (K : PySem.W.Frag) (c2 : Value) (ts2 : Addr → Value → Option Addr → TS) (Wout : WX) (D : Ends) : WX := fun cls d σ H =>
  ∃ b, PySem.W.exmOne K cls c2 = some b ∧ (b = true → ∀ a, H a = none → ts2 a cls d D σ H) ∧ (b = false → Wout cls d σ H)
section
variable {X : Cx} {x1 x2 n : Str} {c1 c2 : Value} {i : Nat} {body su1 su2 : List Stmt} {b1 b2 : Stmt} {np1 np2 hp1 hp2 pos : Pos} {tb : WX → TS} {ts1 ts2 : Addr → Value → Option Addr → TS} {Wout : WX}
end
/-- y = (z, e.f), e in slot i: the exception a with the dict d -/
def tFld (i j : Nat) (z : Str) (f : Str) (a : Addr) (d : Option Addr) : TS := fun D σ H => σ[i]? = some (some (.ref a)) ∧ ∃ (dd : Addr) (fs : List (Str × V)) (v : V), d = some dd ∧ H dd = some (.xd fs) ∧ fs.lookup f = some v ∧ ∀ p, H p = none → D.nx (σ.set j (some (.ref p))) (upd H p (.tup [.str z, v]))
end VLX
namespace VL
open PySem PySem.Spec PyProof.Rows L2
/-! an own __init__ that stores one field -/
def spNT (C : Addr) (f : Str) : Sp := fun vs H Q _ => ∃ (a : Addr) (y : V), vs = [.ref a, y] ∧ H a = some (exo a C none) ∧ ∀ dx, H dx = none → dx ≠ a → Q .non (upd (upd H dx (exd dx [(f, y)])) a (exo a C (some dx)))
section
variable {P : Program} {w : World} {mg : Str → Option Value} {base : Heap} {K : PySem.W.Frag}
end
section
variable {K : PySem.W.Frag} {W : WX} {G G' H H' H0 : Hp} {σ : L2.St} {ρ : Rho} {f f' : Own} {pin : Nat → Option V} {X : Cx} {S S0 S1 S2 T T1 T2 U : Sta} {E : En} {Z : Ends}
/-- raise C(x), C's __init__ storing x under n -/
def wRaiseF (C : Addr) (n : Str) (we : DE (Kd × D)) : DS := fun E ρ => we ρ ⟨fun _ x ρ' => x.1 = .fz ∧ E.ex C [(n, x.2)] ρ', E.ex⟩
@[simp ↓] theorem wRaiseF_eq {C : Addr} {n : Str} {we : DE (Kd × D)} : wRaiseF C n we E ρ = we ρ ⟨fun _ x ρ' => x.1 = .fz ∧ E.ex C [(n, x.2)] ρ', E.ex⟩ := rfl
/-- try: b / except C1 as e: y = (z, e.f) / except C2: su -/
def wTryF (C1 C2 : Addr) (i j : Nat) (z f : Str) (b su : DS) : DS := fun E ρ => b { E with ex := fun C fl ρ' => (C = C1 ∧ ρ'[i]? = some none ∧ okSlot ρ' j = true ∧ ∃ d, fl = [(f, d)] ∧ E.nx (ρ'.set j (some (.F, .tup [.str z, d])))) ∨ (C = C2 ∧ fl = [] ∧ su { E with ex := fun _ _ _ => False } ρ') } ρ
@[simp ↓] theorem wTryF_eq {C1 C2 : Addr} {i j : Nat} {z f : Str} {b su : DS} : wTryF C1 C2 i j z f b su E ρ = b { E with ex := fun C fl ρ' => (C = C1 ∧ ρ'[i]? = some none ∧ okSlot ρ' j = true ∧ ∃ d, fl = [(f, d)] ∧ E.nx (ρ'.set j (some (.F, .tup [.str z, d])))) ∨ (C = C2 ∧ fl = [] ∧ su { E with ex := fun _ _ _ => False } ρ') } ρ := rfl
end
end VL

namespace My
open PySem PySem.Spec PyProof.Rows L2 VL
def top (i : Nat) : Stmt := PySem.Challenge.pw_tapeproof_k50_made_least.main.body.getD i (.Pass ⟨0, 0, 0, 0⟩)
abbrev s_is_number : Stmt := top 8
theorem sc_is_number : FnScope ["thing", "many"] ["thing", "many"] (defScope s_is_number) := ⟨rfl, rfl, rfl, by decide +kernel, rfl, by decide +kernel, by decide +kernel⟩
abbrev s_entry_kept : Stmt := top 9
theorem sc_entry_kept : FnScope ["entry", "states", "signs", "write", "way", "later"] ["entry", "states", "signs"] (defScope s_entry_kept) := ⟨rfl, rfl, rfl, by decide +kernel, rfl, by decide +kernel, by decide +kernel⟩
abbrev s_Machine_init : Stmt := inClass (top 10) 0
theorem sc_Machine_init : FnScope ["self", "table", "states", "signs", "made", "line", "entry"] ["self", "table"] (defScope s_Machine_init) := ⟨rfl, rfl, rfl, by decide +kernel, rfl, by decide +kernel, by decide +kernel⟩
abbrev s_contexts_behind : Stmt := top 12
theorem sc_contexts_behind : FnScope ["machine", "context", "lefts", "rights", "left", "state", "sign", "right", "write", "way", "later", "new", "gram"] ["machine", "context", "lefts", "rights"] (defScope s_contexts_behind) := ⟨rfl, rfl, rfl, by decide +kernel, rfl, by decide +kernel, by decide +kernel⟩
abbrev s_entry_at : Stmt := top 13
theorem sc_entry_at : FnScope ["machine", "context"] ["machine", "context"] (defScope s_entry_at) := ⟨rfl, rfl, rfl, by decide +kernel, rfl, by decide +kernel, by decide +kernel⟩
abbrev s_grown_once : Stmt := top 14
theorem sc_grown_once : FnScope ["machine", "lefts", "rights", "contexts", "many", "context", "entry", "new"] ["machine", "lefts", "rights", "contexts"] (defScope s_grown_once) := ⟨rfl, rfl, rfl, by decide +kernel, rfl, by decide +kernel, by decide +kernel⟩
abbrev s_wall_ofN : Stmt := top 15
theorem sc_wall_ofN : FnScope ["machine", "width", "most", "blank", "lefts", "rights", "contexts", "came"] ["machine", "width", "most"] (defScope s_wall_ofN) := ⟨rfl, rfl, rfl, by decide +kernel, rfl, by decide +kernel, by decide +kernel⟩
abbrev s__law_nextR : Stmt := top 17
theorem sc__law_nextR : FnScope ["_law_script", "_law_at", "_law_cell", "_law_m"] ["_law_script", "_law_at"] (defScope s__law_nextR) := ⟨rfl, rfl, rfl, by decide +kernel, rfl, by decide +kernel, by decide +kernel⟩
abbrev s__law_sameE : Stmt := top 18
theorem sc__law_sameE : FnScope ["_law_found", "_law_due", "_law_name", "_law_one_here", "_law_other"] ["_law_found", "_law_due"] (defScope s__law_sameE) := ⟨rfl, rfl, rfl, by decide +kernel, rfl, by decide +kernel, by decide +kernel⟩
abbrev s__law_tableR : Stmt := top 19
theorem sc__law_tableR : FnScope ["_law_script", "_law_at", "_law_states", "_law_signs", "_law_table_here", "_law_k", "_law_line", "_law_j", "_law_m", "_law_entry"] ["_law_script", "_law_at", "_law_states", "_law_signs"] (defScope s__law_tableR) := ⟨rfl, rfl, rfl, by decide +kernel, rfl, by decide +kernel, by decide +kernel⟩
abbrev s__law_behindN : Stmt := top 20
theorem sc__law_behindN : FnScope ["_law_table_here", "_law_context", "_law_lefts", "_law_rights", "_law_left", "_law_state", "_law_sign", "_law_right", "_law_entry", "_law_inner", "_law_gram"] ["_law_table_here", "_law_context", "_law_lefts", "_law_rights"] (defScope s__law_behindN) := ⟨rfl, rfl, rfl, by decide +kernel, rfl, by decide +kernel, by decide +kernel⟩
abbrev s__law_least : Stmt := top 21
theorem sc__law_least : FnScope ["_law_table_here", "_law_width", "_law_blank", "_law_found", "_law_size", "_law_context", "_law_asked", "_law_side", "_law_gram", "_law_later", "_law_one_here"] ["_law_table_here", "_law_width"] (defScope s__law_least) := ⟨rfl, rfl, rfl, by decide +kernel, rfl, by decide +kernel, by decide +kernel⟩
abbrev s__law_refused : Stmt := top 22
theorem sc__law_refused : FnScope ["_law_machine", "_law_width", "_law_error", "e"] ["_law_machine", "_law_width"] (defScope s__law_refused) := ⟨rfl, rfl, rfl, by decide +kernel, rfl, by decide +kernel, by decide +kernel⟩
abbrev s__law_fits : Stmt := top 23
theorem sc__law_fits : FnScope ["_law_machine", "_law_width", "_law_most", "_law_shut", "_law_found"] ["_law_machine", "_law_width", "_law_most", "_law_shut"] (defScope s__law_fits) := ⟨rfl, rfl, rfl, by decide +kernel, rfl, by decide +kernel, by decide +kernel⟩
abbrev s__law_one : Stmt := top 24
theorem sc__law_one : FnScope ["_law_script", "_law_at", "_law_m", "_law_signs", "_law_width", "_law_table_here", "_law_machine", "_law_shut", "_law_many", "_law_told", "_law_row"] ["_law_script", "_law_at"] (defScope s__law_one) := ⟨rfl, rfl, rfl, by decide +kernel, rfl, by decide +kernel, by decide +kernel⟩
abbrev s_law : Stmt := top 25
theorem sc_law : FnScope ["_law_script", "_law_at", "_law_turn"] ["_law_script"] (defScope s_law) := ⟨rfl, rfl, rfl, by decide +kernel, rfl, by decide +kernel, by decide +kernel⟩
structure Ad where
  A : Cs
  a_is_number : Addr
  d_is_number : FuncData
  a_entry_kept : Addr
  d_entry_kept : FuncData
  a_Machine_init : Addr
  d_Machine_init : FuncData
  a_contexts_behind : Addr
  d_contexts_behind : FuncData
  a_entry_at : Addr
  d_entry_at : FuncData
  a_grown_once : Addr
  d_grown_once : FuncData
  a_wall_ofN : Addr
  d_wall_ofN : FuncData
  a__law_nextR : Addr
  d__law_nextR : FuncData
  a__law_sameE : Addr
  d__law_sameE : FuncData
  a__law_tableR : Addr
  d__law_tableR : FuncData
  a__law_behindN : Addr
  d__law_behindN : FuncData
  a__law_least : Addr
  d__law_least : FuncData
  a__law_refused : Addr
  d__law_refused : FuncData
  a__law_fits : Addr
  d__law_fits : FuncData
  a__law_one : Addr
  d__law_one : FuncData
  a_law : Addr
  d_law : FuncData
structure Txt (K : PySem.W.Frag) (mg : Str → Option Value) (D : Ad) : Prop where
  n_ValueError : mg "ValueError" = none
  n_all : mg "all" = none
  n_bool : mg "bool" = none
  n_dict : mg "dict" = none
  n_int : mg "int" = none
  n_isinstance : mg "isinstance" = none
  n_len : mg "len" = none
  n_list : mg "list" = none
  n_min : mg "min" = none
  n_range : mg "range" = none
  n_sorted : mg "sorted" = none
  n_str : mg "str" = none
  n_tuple : mg "tuple" = none
  n_zip : mg "zip" = none
  F_is_number : Fun K "is_number" "is_number" s_is_number D.a_is_number D.d_is_number
  b_is_number : Binds K D.d_is_number ["thing", "many"] []
  m_is_number : mg "is_number" = some (.ref D.a_is_number)
  F_entry_kept : Fun K "entry_kept" "entry_kept" s_entry_kept D.a_entry_kept D.d_entry_kept
  b_entry_kept : Binds K D.d_entry_kept ["entry", "states", "signs"] []
  m_entry_kept : mg "entry_kept" = some (.ref D.a_entry_kept)
  F_Machine_init : Fun K "__init__" "Machine.__init__" s_Machine_init D.a_Machine_init D.d_Machine_init
  b_Machine_init : Binds K D.d_Machine_init ["self", "table"] []
  F_contexts_behind : Fun K "contexts_behind" "contexts_behind" s_contexts_behind D.a_contexts_behind D.d_contexts_behind
  b_contexts_behind : Binds K D.d_contexts_behind ["machine", "context", "lefts", "rights"] []
  m_contexts_behind : mg "contexts_behind" = some (.ref D.a_contexts_behind)
  F_entry_at : Fun K "entry_at" "entry_at" s_entry_at D.a_entry_at D.d_entry_at
  b_entry_at : Binds K D.d_entry_at ["machine", "context"] []
  m_entry_at : mg "entry_at" = some (.ref D.a_entry_at)
  F_grown_once : Fun K "grown_once" "grown_once" s_grown_once D.a_grown_once D.d_grown_once
  b_grown_once : Binds K D.d_grown_once ["machine", "lefts", "rights", "contexts"] []
  m_grown_once : mg "grown_once" = some (.ref D.a_grown_once)
  F_wall_ofN : Fun K "wall_of" "wall_of" s_wall_ofN D.a_wall_ofN D.d_wall_ofN
  b_wall_ofN : Binds K D.d_wall_ofN ["machine", "width", "most"] []
  m_wall_ofN : mg "wall_of" = some (.ref D.a_wall_ofN)
  F__law_nextR : Fun K "_law_next" "_law_next" s__law_nextR D.a__law_nextR D.d__law_nextR
  b__law_nextR : Binds K D.d__law_nextR ["_law_script", "_law_at"] []
  m__law_nextR : mg "_law_next" = some (.ref D.a__law_nextR)
  F__law_sameE : Fun K "_law_same" "_law_same" s__law_sameE D.a__law_sameE D.d__law_sameE
  b__law_sameE : Binds K D.d__law_sameE ["_law_found", "_law_due"] []
  m__law_sameE : mg "_law_same" = some (.ref D.a__law_sameE)
  F__law_tableR : Fun K "_law_table" "_law_table" s__law_tableR D.a__law_tableR D.d__law_tableR
  b__law_tableR : Binds K D.d__law_tableR ["_law_script", "_law_at", "_law_states", "_law_signs"] []
  m__law_tableR : mg "_law_table" = some (.ref D.a__law_tableR)
  F__law_behindN : Fun K "_law_behind" "_law_behind" s__law_behindN D.a__law_behindN D.d__law_behindN
  b__law_behindN : Binds K D.d__law_behindN ["_law_table_here", "_law_context", "_law_lefts", "_law_rights"] []
  m__law_behindN : mg "_law_behind" = some (.ref D.a__law_behindN)
  F__law_least : Fun K "_law_least" "_law_least" s__law_least D.a__law_least D.d__law_least
  b__law_least : Binds K D.d__law_least ["_law_table_here", "_law_width"] []
  m__law_least : mg "_law_least" = some (.ref D.a__law_least)
  F__law_refused : Fun K "_law_refused" "_law_refused" s__law_refused D.a__law_refused D.d__law_refused
  b__law_refused : Binds K D.d__law_refused ["_law_machine", "_law_width"] []
  m__law_refused : mg "_law_refused" = some (.ref D.a__law_refused)
  F__law_fits : Fun K "_law_fits" "_law_fits" s__law_fits D.a__law_fits D.d__law_fits
  b__law_fits : Binds K D.d__law_fits ["_law_machine", "_law_width", "_law_most", "_law_shut"] []
  m__law_fits : mg "_law_fits" = some (.ref D.a__law_fits)
  F__law_one : Fun K "_law_one" "_law_one" s__law_one D.a__law_one D.d__law_one
  b__law_one : Binds K D.d__law_one ["_law_script", "_law_at"] []
  m__law_one : mg "_law_one" = some (.ref D.a__law_one)
  F_law : Fun K "law" "law" s_law D.a_law D.d_law
  b_law : Binds K D.d_law ["_law_script"] []
  m_law : mg "law" = some (.ref D.a_law)
  m_Machine : mg "Machine" = some (.ref D.A.C_Machine)
  cl_Machine : Cls K D.A.C_Machine
  mk_Machine : L2.Mk K D.A.C_Machine D.a_Machine_init
  na_Machine_table : NoAttr K D.A.C_Machine "table"
  ec_NoWidth : ExcC K D.A.C_NoWidth
  ik_NoWidth_NoMachine : PySem.W.kitOne K (.ref D.A.C_NoWidth) (.ref D.A.C_NoMachine) = some false
  ik_NoWidth_NoMove : PySem.W.kitOne K (.ref D.A.C_NoWidth) (.ref D.A.C_NoMove) = some false
  ik_NoWidth_NoShape : PySem.W.kitOne K (.ref D.A.C_NoWidth) (.ref D.A.C_NoShape) = some false
  ik_NoWidth_NoText : PySem.W.kitOne K (.ref D.A.C_NoWidth) (.ref D.A.C_NoText) = some false
  ik_NoWidth_NoWidth : PySem.W.kitOne K (.ref D.A.C_NoWidth) (.ref D.A.C_NoWidth) = some true
  it_NoWidth_ValueError : PySem.W.kitOne K (.ref D.A.C_NoWidth) (.type "ValueError") = some true
  m_NoMachine : mg "NoMachine" = some (.ref D.A.C_NoMachine)
  m_NoMove : mg "NoMove" = some (.ref D.A.C_NoMove)
  m_NoShape : mg "NoShape" = some (.ref D.A.C_NoShape)
  m_NoText : mg "NoText" = some (.ref D.A.C_NoText)
  m_NoWidth : mg "NoWidth" = some (.ref D.A.C_NoWidth)
  m_TapeError : mg "TapeError" = some (.ref D.A.C_TapeError)
  rs_NoWidth : RsC K D.A.C_NoWidth
  xm_NoWidth_TapeError : PySem.W.exmOne K (.ref D.A.C_NoWidth) (.ref D.A.C_TapeError) = some true
section
variable {P : Program} {w : World} {K : PySem.W.Frag} {mg : Str → Option Value} {base : Heap} {D : Ad}
theorem ok_is_number (T : Txt K mg D) : FnOk P w K mg base (L2.CX P w) 1 D.a_is_number D.d_is_number ["thing", "many"] (spV K [.F, .F] [.F, .F] (W_is_number D.A)) := by
  refine fn_ok T.F_is_number sc_is_number rfl rfl (by decide) (w' := w_is_number D.A) (fun cdv A outer s H E hr => ?_) (fun ds P hl h => d_is_number D.A ds P h)
  unfold w_is_number
  exact qs_one (q_ret (q_and (q_isi "int" T.n_isinstance T.n_int (q_var 0)) (q_and (q_notV (q_isi "bool" T.n_isinstance T.n_bool (q_var 0))) (q_one (q_chain op_le op_lt ok_B0 ok_B0 (q_int) (q_var 0) (q_var 1))))))
theorem ok_entry_kept (T : Txt K mg D) : FnOk P w K mg base (L2.CX P w) 2 D.a_entry_kept D.d_entry_kept ["entry", "states", "signs"] (spV K [.F, .F, .F] [.F, .F, .F] (W_entry_kept D.A)) := by
  refine fn_ok T.F_entry_kept sc_entry_kept rfl rfl (by decide) (w' := w_entry_kept D.A) (fun cdv A outer s H E hr => ?_) (fun ds P hl h => d_entry_kept D.A ds P h)
  unfold w_entry_kept
  exact qs_cons (q_ifs (q_tcmp op_isN ok_IsN (q_var 0) (q_non) (nomark _)) (qs_one (q_ret (q_non))) (qs_nil)) <|
    qs_cons (q_ifs (PW.pt (qw_or (q_not (q_tval (q_isi "tuple" T.n_isinstance T.n_tuple (q_var 0)))) (qw_or1 (q_tcmp op_ne ok_Ne (q_callB call_lenU ok_Len (by rfl) T.n_len (by rfl) (q_cons (q_var 0) (q_nil))) (q_int) (nomark _))))) (qs_one (q_never)) (qs_nil)) <|
    qs_cons (q_asg (q_var 0) (q_gtup rfl (q_gcons (q_gname 3 sc_entry_kept.nd) (q_gcons (q_gname 4 sc_entry_kept.nd) (q_gcons (q_gname 5 sc_entry_kept.nd) (q_gnil)))))) <|
    qs_cons (q_ifs (PW.pt (qw_or (q_not (q_tval (q_call (ok_is_number T) (hr.mono (by decide)) T.m_is_number T.F_is_number.kp T.b_is_number (takes_of rfl rfl rfl rfl) (q_cons (q_var 3) (q_cons (q_var 2) (q_nil)))))) (qw_or (q_tcmp (OpR.or op_notIn_seq (op_dnotin (hu_of hr))) ok_NotIn (q_var 4) (q_tup (q_cons (q_str) (q_cons (q_str) (q_nil)))) (by with_unfolding_all rfl)) (qw_or1 (q_not (q_tval (q_call (ok_is_number T) (hr.mono (by decide)) T.m_is_number T.F_is_number.kp T.b_is_number (takes_of rfl rfl rfl rfl) (q_cons (q_var 5) (q_cons (q_var 1) (q_nil)))))))))) (qs_one (q_never)) (qs_nil)) <|
    qs_one (q_ret (q_tup (q_cons (q_var 3) (q_cons (q_var 4) (q_cons (q_var 5) (q_nil))))))
theorem ok_Machine_init (T : Txt K mg D) : FnOk P w K mg base (L2.CX P w) 3 D.a_Machine_init D.d_Machine_init ["self", "table"] (spV K (mkMs [] 1) (mkMs [.F] 1) (W_Machine_init D.A)) := by
  refine fn_ok T.F_Machine_init sc_Machine_init rfl rfl (by decide) (w' := w_Machine_init D.A) (fun cdv A outer s H E hr => ?_) (fun ds P hl h => d_Machine_init D.A ds P h)
  unfold w_Machine_init
  exact qs_cons (q_ifs (PW.pt (qw_or (q_tcmp op_eq ok_Eq (q_callB call_lenU ok_Len (by rfl) T.n_len (by rfl) (q_cons (q_var 1) (q_nil))) (q_int) (nomark _)) (qw_or1 (q_tcmp op_eq ok_Eq (q_callB call_lenU ok_Len (by rfl) T.n_len (by rfl) (q_cons (q_ixU (hu_of hr) (q_var 1) (q_int)) (q_nil))) (q_int) (nomark _))))) (qs_one (q_never)) (qs_nil)) <|
    qs_cons (q_set (i := 2) sc_Machine_init.nd (q_fz (q_callB call_lenU ok_Len (by rfl) T.n_len (by rfl) (q_cons (q_var 1) (q_nil))))) <|
    qs_cons (q_set (i := 3) sc_Machine_init.nd (q_fz (q_callB call_lenU ok_Len (by rfl) T.n_len (by rfl) (q_cons (q_ixU (hu_of hr) (q_var 1) (q_int)) (q_nil))))) <|
    qs_cons (q_set (i := 4) sc_Machine_init.nd (q_lst (q_nil))) <|
    qs_cons (q_for (passes_of rfl) rfl (qi_seq (q_var 1)) (q_gname 5 sc_Machine_init.nd) (qs_cons (q_ifs (q_tcmp op_ne ok_Ne (q_callB call_lenU ok_Len (by rfl) T.n_len (by rfl) (q_cons (q_var 5) (q_nil))) (q_var 3) (nomark _)) (qs_one (q_never)) (qs_nil)) <|
    qs_one (q_expr (q_lm PySem.F.slot_list_append PySem.F.type_list_append mt_append ok_App (q_var 4) (q_cons (q_callTy call_tuple_of ok_Tuple (by rfl) T.n_tuple (by rfl) (q_cons (q_lc (own := [("entry", 6)]) [] rfl sc_Machine_init.nd (qi_seq (q_var 5)) (blkOk_by (N := ["self", "table", "states", "signs", "made", "line", "entry"]) (sc := defScope s_Machine_init) (by decide +kernel)) (fun _ _ _ _ _ => q_gname 6 sc_Machine_init.nd) (fun _ _ _ _ _ => q_tsnil) (fun _ _ _ _ _ => q_call (ok_entry_kept T) (hr.mono (by decide)) T.m_entry_kept T.F_entry_kept.kp T.b_entry_kept takes0 (q_cons (q_var 6) (q_cons (q_var 2) (q_cons (q_var 3) (q_nil)))))) (q_nil))) (q_nil)))))) <|
    qs_one (q_putF 0 D.A.C_Machine 0 T.cl_Machine T.na_Machine_table (q_fz (q_callTy call_tuple_of ok_Tuple (by rfl) T.n_tuple (by rfl) (q_cons (q_var 4) (q_nil)))))
theorem ok_contexts_behind (T : Txt K mg D) : FnOk P w K mg base (L2.CX P w) 1 D.a_contexts_behind D.d_contexts_behind ["machine", "context", "lefts", "rights"] (spV K [.F, .F, .F, .F] [.F, .F, .F, .F] (W_contexts_behind D.A)) := by
  refine fn_ok T.F_contexts_behind sc_contexts_behind rfl rfl (by decide) (w' := w_contexts_behind D.A) (fun cdv A outer s H E hr => ?_) (fun ds P hl h => d_contexts_behind D.A ds P h)
  unfold w_contexts_behind
  exact qs_cons (q_asg (q_var 1) (q_gtup rfl (q_gcons (q_gname 4 sc_contexts_behind.nd) (q_gcons (q_gname 5 sc_contexts_behind.nd) (q_gcons (q_gname 6 sc_contexts_behind.nd) (q_gcons (q_gname 7 sc_contexts_behind.nd) (q_gnil))))))) <|
    qs_cons (q_asg (q_ixU (hu_of hr) (q_ixU (hu_of hr) (q_fld D.A.C_Machine 0 T.cl_Machine T.na_Machine_table (q_var 0)) (q_var 5)) (q_var 6)) (q_gtup rfl (q_gcons (q_gname 8 sc_contexts_behind.nd) (q_gcons (q_gname 9 sc_contexts_behind.nd) (q_gcons (q_gname 10 sc_contexts_behind.nd) (q_gnil)))))) <|
    qs_cons (q_ifs (q_tcmp (op_eqD (hu64 hr)) ok_EqX (q_var 9) (q_str) (nomark _)) (qs_cons (q_set (i := 11) sc_contexts_behind.nd (q_fz (q_op op_addU ok_Add (q_tup (q_cons (q_var 8) (q_nil))) (q_sl (q_var 4) (q_no) (q_so (q_un un_neg ok_Neg (q_int))))))) <|
    qs_one (q_ret (q_lc (own := [("gram", 12)]) [] rfl sc_contexts_behind.nd (qi_nd (q_var 3)) (blkOk_by (N := ["machine", "context", "lefts", "rights", "left", "state", "sign", "right", "write", "way", "later", "new", "gram"]) (sc := defScope s_contexts_behind) (by decide +kernel)) (fun _ _ _ _ _ => q_gname 12 sc_contexts_behind.nd) (fun _ _ _ _ _ => q_tsone (q_tcmp (op_eqD (hu64 hr)) ok_EqX (q_sl (q_var 12) (q_no) (q_so (q_un un_neg ok_Neg (q_int)))) (q_sl (q_var 7) (q_so (q_int)) (q_no)) (nomark _))) (fun _ _ _ _ _ => q_tup (q_cons (q_var 11) (q_cons (q_var 10) (q_cons (q_ixU (hu_of hr) (q_var 7) (q_int)) (q_cons (q_var 12) (q_nil))))))))) (qs_nil)) <|
    qs_cons (q_set (i := 11) sc_contexts_behind.nd (q_fz (q_op op_addU ok_Add (q_tup (q_cons (q_var 8) (q_nil))) (q_sl (q_var 7) (q_no) (q_so (q_un un_neg ok_Neg (q_int))))))) <|
    qs_one (q_ret (q_lc (own := [("gram", 12)]) [] rfl sc_contexts_behind.nd (qi_nd (q_var 2)) (blkOk_by (N := ["machine", "context", "lefts", "rights", "left", "state", "sign", "right", "write", "way", "later", "new", "gram"]) (sc := defScope s_contexts_behind) (by decide +kernel)) (fun _ _ _ _ _ => q_gname 12 sc_contexts_behind.nd) (fun _ _ _ _ _ => q_tsone (q_tcmp (op_eqD (hu64 hr)) ok_EqX (q_sl (q_var 12) (q_no) (q_so (q_un un_neg ok_Neg (q_int)))) (q_sl (q_var 4) (q_so (q_int)) (q_no)) (nomark _))) (fun _ _ _ _ _ => q_tup (q_cons (q_var 12) (q_cons (q_var 10) (q_cons (q_ixU (hu_of hr) (q_var 4) (q_int)) (q_cons (q_var 11) (q_nil))))))))
theorem ok_entry_at (T : Txt K mg D) : FnOk P w K mg base (L2.CX P w) 1 D.a_entry_at D.d_entry_at ["machine", "context"] (spV K [.F, .F] [.F, .F] (W_entry_at D.A)) := by
  refine fn_ok T.F_entry_at sc_entry_at rfl rfl (by decide) (w' := w_entry_at D.A) (fun cdv A outer s H E hr => ?_) (fun ds P hl h => d_entry_at D.A ds P h)
  unfold w_entry_at
  exact qs_one (q_ret (q_ixU (hu_of hr) (q_ixU (hu_of hr) (q_fld D.A.C_Machine 0 T.cl_Machine T.na_Machine_table (q_var 0)) (q_ixU (hu_of hr) (q_var 1) (q_int))) (q_ixU (hu_of hr) (q_var 1) (q_int))))
theorem ok_grown_once (T : Txt K mg D) : FnOk P w K mg base (L2.CX P w) 2 D.a_grown_once D.d_grown_once ["machine", "lefts", "rights", "contexts"] (spV K [.F, .P (.N), .P (.N), .P (.N)] [.F, .P (.N), .P (.N), .P (.N)] (W_grown_once D.A)) := by
  refine fn_ok T.F_grown_once sc_grown_once rfl rfl (by decide) (w' := w_grown_once D.A) (fun cdv A outer s H E hr => ?_) (fun ds P hl h => d_grown_once D.A ds P h)
  unfold w_grown_once
  exact qs_cons (q_set (i := 4) sc_grown_once.nd (q_fz (q_op op_addU ok_Add (q_op op_addU ok_Add (q_callB call_lenX ok_LenX (by rfl) T.n_len (by rfl) (q_cons (q_var 1) (q_nil))) (q_callB call_lenX ok_LenX (by rfl) T.n_len (by rfl) (q_cons (q_var 2) (q_nil)))) (q_callB call_lenX ok_LenX (by rfl) T.n_len (by rfl) (q_cons (q_var 3) (q_nil)))))) <|
    qs_cons (q_for (passes_of rfl) rfl (qi_seq (q_callTy (call_listX rfl) ok_ListX (by rfl) T.n_list (by rfl) (q_cons (q_var 3) (q_nil)))) (q_gname 5 sc_grown_once.nd) (qs_cons (q_set (i := 6) sc_grown_once.nd (q_fz (q_call (ok_entry_at T) (hr.mono (by decide)) T.m_entry_at T.F_entry_at.kp T.b_entry_at (takes_of rfl rfl rfl rfl) (q_cons (q_var 0) (q_cons (q_var 5) (q_nil)))))) <|
    qs_cons (q_ifs (q_tcmp op_isN ok_IsN (q_var 6) (q_non) (nomark _)) (qs_one (q_ret (q_non))) (qs_nil)) <|
    qs_cons (q_ifs (q_tcmp op_eq ok_Eq (q_ixU (hu_of hr) (q_var 6) (q_int)) (q_str) (nomark _)) (qs_one (q_subN (hu64 hr) (q_var 1) (q_ixU (hu_of hr) (q_var 5) (q_int)) (q_bl))) (qs_one (q_subN (hu64 hr) (q_var 2) (q_ixU (hu_of hr) (q_var 5) (q_int)) (q_bl)))) <|
    qs_one (q_for (passes_of rfl) rfl (qi_seq (q_lendD 2 (q_lendD 1 (q_call (ok_contexts_behind T) (hr.mono (by decide)) T.m_contexts_behind T.F_contexts_behind.kp T.b_contexts_behind (takes_of rfl rfl rfl rfl) (q_cons (q_var 0) (q_cons (q_var 5) (q_cons (q_var 1) (q_cons (q_var 2) (q_nil))))))))) (q_gname 7 sc_grown_once.nd) (qs_one (q_subN (hu64 hr) (q_var 3) (q_var 7) (q_bl)))))) <|
    qs_one (q_ret (q_op op_sub ok_I0 (q_op op_addU ok_Add (q_op op_addU ok_Add (q_callB call_lenX ok_LenX (by rfl) T.n_len (by rfl) (q_cons (q_var 1) (q_nil))) (q_callB call_lenX ok_LenX (by rfl) T.n_len (by rfl) (q_cons (q_var 2) (q_nil)))) (q_callB call_lenX ok_LenX (by rfl) T.n_len (by rfl) (q_cons (q_var 3) (q_nil)))) (q_var 4)))
theorem ok_wall_ofN (T : Txt K mg D) : FnOk P w K mg base (L2.CX P w) 3 D.a_wall_ofN D.d_wall_ofN ["machine", "width", "most"] (spV K [.F, .F, .F] [.F, .F, .F] (W_wall_ofN D.A)) := by
  refine fn_ok T.F_wall_ofN sc_wall_ofN rfl rfl (by decide) (w' := w_wall_ofN D.A) (fun cdv A outer s H E hr => ?_) (fun ds P hl h => d_wall_ofN D.A ds P h)
  unfold w_wall_ofN
  exact qs_cons (q_ifs (q_tcmp op_lt ok_B0 (q_var 1) (q_int) (nomark _)) (qs_one (q_raise T.rs_NoWidth T.m_NoWidth rfl (takes_of rfl rfl rfl rfl))) (qs_nil)) <|
    qs_cons (q_set (i := 3) sc_wall_ofN.nd (q_fz (q_op op_mulX ok_MulX (q_tup (q_cons (q_int) (q_nil))) (q_var 1)))) <|
    qs_cons (q_set (i := 4) sc_wall_ofN.nd (q_dispN (hu64 hr) (q_var 3) (q_bl))) <|
    qs_cons (q_set (i := 5) sc_wall_ofN.nd (q_dispN (hu64 hr) (q_var 3) (q_bl))) <|
    qs_cons (q_set (i := 6) sc_wall_ofN.nd (q_dispN (hu64 hr) (q_tup (q_cons (q_var 3) (q_cons (q_int) (q_cons (q_int) (q_cons (q_var 3) (q_nil)))))) (q_bl))) <|
    qs_cons (q_set (i := 7) sc_wall_ofN.nd (q_fz (q_int))) <|
    qs_cons (q_while (passes_of rfl) (q_tcmp op_gt ok_B0 (q_var 7) (q_int) (nomark _)) (qs_cons (q_ifs (q_tcmp op_gt ok_B0 (q_callB call_lenX ok_LenX (by rfl) T.n_len (by rfl) (q_cons (q_var 6) (q_nil))) (q_var 2) (nomark _)) (qs_one (q_ret (q_non))) (qs_nil)) <|
    qs_cons (q_set (i := 7) sc_wall_ofN.nd (q_fz (q_call (ok_grown_once T) (hr.mono (by decide)) T.m_grown_once T.F_grown_once.kp T.b_grown_once (takes_of rfl rfl rfl rfl) (q_cons (q_var 0) (q_cons (q_var 4) (q_cons (q_var 5) (q_cons (q_var 6) (q_nil)))))))) <|
    qs_one (q_ifs (q_tcmp op_isN ok_IsN (q_var 7) (q_non) (nomark _)) (qs_one (q_ret (q_non))) (qs_nil)))) <|
    qs_one (q_ret (q_tupO (q_consN (q_str) (q_consN (q_var 1) (q_consN (q_callB (cr_sortedG (hu64 hr)) ok_SortedX (by rfl) T.n_sorted (by rfl) (q_cons (q_callTy (call_listX rfl) ok_ListX (by rfl) T.n_list (by rfl) (q_cons (q_var 4) (q_nil))) (q_nil))) (q_consN (q_callB (cr_sortedG (hu64 hr)) ok_SortedX (by rfl) T.n_sorted (by rfl) (q_cons (q_callTy (call_listX rfl) ok_ListX (by rfl) T.n_list (by rfl) (q_cons (q_var 5) (q_nil))) (q_nil))) (q_consN (q_callB (cr_sortedG (hu64 hr)) ok_SortedX (by rfl) T.n_sorted (by rfl) (q_cons (q_callTy (call_listX rfl) ok_ListX (by rfl) T.n_list (by rfl) (q_cons (q_var 6) (q_nil))) (q_nil))) (q_nilN))))))))
theorem ok__law_nextR (T : Txt K mg D) : FnOk P w K mg base (L2.CX P w) 1 D.a__law_nextR D.d__law_nextR ["_law_script", "_law_at"] (spV K [.F, .P (.L .F)] [.F, .P (.L .F)] (W__law_nextR D.A)) := by
  refine fn_ok T.F__law_nextR sc__law_nextR rfl rfl (by decide) (w' := w__law_nextR D.A) (fun cdv A outer s H E hr => ?_) (fun ds P hl h => d__law_nextR D.A ds P h)
  unfold w__law_nextR
  exact qs_cons (q_sub (hu_of hr) (q_var 1) (q_int) (q_op op_addU ok_Add (q_ixU (hu_of hr) (q_var 1) (q_int)) (q_int))) <|
    qs_cons (q_set (i := 2) sc__law_nextR.nd (q_fz (q_int))) <|
    qs_cons (q_ifs (q_tcmp op_gt ok_B0 (q_callB call_lenU ok_Len (by rfl) T.n_len (by rfl) (q_cons (q_var 0) (q_nil))) (q_int) (nomark _)) (qs_one (q_set (i := 2) sc__law_nextR.nd (q_fz (q_ixU (hu_of hr) (q_var 0) (q_op op_mod ok_I (q_ixU (hu_of hr) (q_var 1) (q_int)) (q_callB call_lenU ok_Len (by rfl) T.n_len (by rfl) (q_cons (q_var 0) (q_nil)))))))) (qs_nil)) <|
    qs_cons (q_set (i := 3) sc__law_nextR.nd (q_fz (q_op op_mod ok_I (q_op op_mulU ok_Mul (q_op op_addU ok_Add (q_op op_addU ok_Add (q_op op_mod ok_I (q_var 2) (q_int)) (q_op op_mulU ok_Mul (q_op op_mulU ok_Mul (q_ixU (hu_of hr) (q_var 1) (q_int)) (q_ixU (hu_of hr) (q_var 1) (q_int))) (q_int))) (q_int)) (q_int)) (q_int)))) <|
    qs_one (q_ret (q_op op_mod ok_I (q_op op_mulU ok_Mul (q_var 3) (q_var 3)) (q_int)))
theorem ok__law_sameE (T : Txt K mg D) : ∀ n, FnOk P w K mg base (L2.CX P w) n D.a__law_sameE D.d__law_sameE ["_law_found", "_law_due"] (spV K [.F, .F] [.F, .F] (W__law_sameE D.A n))
  | 0 => fnok_none fun _ _ h => h
  | n + 1 => by
    have IH : FnOk P w K mg base (L2.CX P w) n D.a__law_sameE D.d__law_sameE ["_law_found", "_law_due"] (spV K [.F, .F] [.F, .F] (W__law_sameE D.A n)) := ok__law_sameE T n
    refine fn_ok T.F__law_sameE sc__law_sameE rfl rfl (by decide) (w' := w__law_sameE D.A n) (fun cdv A outer s H E hr => ?_) (fun ds P hl h => d__law_sameE D.A n ds P h)
    unfold w__law_sameE
    exact qs_cons (q_ifs (q_tval (q_isi "dict" T.n_isinstance T.n_dict (q_var 1))) (q_nevers) (qs_nil)) <|
      qs_cons (q_ifs (PW.pt (qw_or (q_tval (q_isi "list" T.n_isinstance T.n_list (q_var 1))) (qw_or1 (q_tval (q_isi "tuple" T.n_isinstance T.n_tuple (q_var 1)))))) (qs_cons (q_ifs (PW.pt (qw_and (q_tval (q_isi "list" T.n_isinstance T.n_list (q_var 1))) (qw_and1 (q_not (q_tval (q_isi "list" T.n_isinstance T.n_list (q_var 0))))))) (qs_one (q_ret (q_bl))) (qs_nil)) <|
      qs_cons (q_ifs (PW.pt (qw_or (PW.pt (qw_and (q_tval (q_isi "tuple" T.n_isinstance T.n_tuple (q_var 1))) (qw_and1 (q_not (q_tval (q_isi "tuple" T.n_isinstance T.n_tuple (q_var 0))))))) (qw_or1 (q_tcmp op_ne ok_Ne (q_callB call_lenU ok_Len (by rfl) T.n_len (by rfl) (q_cons (q_var 0) (q_nil))) (q_callB call_lenU ok_Len (by rfl) T.n_len (by rfl) (q_cons (q_var 1) (q_nil))) (nomark _))))) (qs_one (q_ret (q_bl))) (qs_nil)) <|
      qs_one (q_ret (q_callB (cr_all rfl) ok_All (by rfl) T.n_all (by rfl) (q_cons (q_lc (own := [("_law_one_here", 3), ("_law_other", 4)]) [] rfl sc__law_sameE.nd (qi_zip T.n_zip (q_cons (q_var 0) (q_cons (q_var 1) (q_nil)))) (blkOk_by (N := ["_law_found", "_law_due", "_law_name", "_law_one_here", "_law_other"]) (sc := defScope s__law_sameE) (by decide +kernel)) (fun _ _ _ _ _ => q_gtup rfl (q_gcons (q_gname 3 sc__law_sameE.nd) (q_gcons (q_gname 4 sc__law_sameE.nd) (q_gnil)))) (fun _ _ _ _ _ => q_tsnil) (fun _ _ _ _ _ => q_call IH hr T.m__law_sameE T.F__law_sameE.kp T.b__law_sameE takes0 (q_cons (q_var 3) (q_cons (q_var 4) (q_nil))))) (q_nil))))) (qs_nil)) <|
      qs_cons (q_ifs (q_tval (q_isi "str" T.n_isinstance T.n_str (q_var 1))) (qs_one (q_ret (q_and (q_isi "str" T.n_isinstance T.n_str (q_var 0)) (q_one (q_cmp op_eq ok_Eq (q_var 0) (q_var 1) (nomark _)))))) (qs_nil)) <|
      qs_one (q_ret (q_and (q_isi "int" T.n_isinstance T.n_int (q_var 0)) (q_and (q_notV (q_isi "bool" T.n_isinstance T.n_bool (q_var 0))) (q_one (q_cmp op_eq ok_Eq (q_var 0) (q_var 1) (nomark _))))))
theorem ok__law_tableR (T : Txt K mg D) : FnOk P w K mg base (L2.CX P w) 2 D.a__law_tableR D.d__law_tableR ["_law_script", "_law_at", "_law_states", "_law_signs"] (spV K [.F, .P (.L .F), .F, .F] [.F, .P (.L .F), .F, .F] (W__law_tableR D.A)) := by
  refine fn_ok T.F__law_tableR sc__law_tableR rfl rfl (by decide) (w' := w__law_tableR D.A) (fun cdv A outer s H E hr => ?_) (fun ds P hl h => d__law_tableR D.A ds P h)
  unfold w__law_tableR
  exact qs_cons (q_set (i := 4) sc__law_tableR.nd (q_lst (q_nil))) <|
    qs_cons (q_for (passes_of rfl) rfl (qi_range1 T.n_range (q_cons (q_var 2) (q_nil))) (q_gname 5 sc__law_tableR.nd) (qs_cons (q_set (i := 6) sc__law_tableR.nd (q_lst (q_nil))) <|
    qs_cons (q_for (passes_of rfl) rfl (qi_range1 T.n_range (q_cons (q_var 3) (q_nil))) (q_gname 7 sc__law_tableR.nd) (qs_cons (q_set (i := 8) sc__law_tableR.nd (q_fz (q_call (ok__law_nextR T) (hr.mono (by decide)) T.m__law_nextR T.F__law_nextR.kp T.b__law_nextR (takes_of rfl rfl rfl rfl) (q_cons (q_var 0) (q_cons (q_var 1) (q_nil)))))) <|
    qs_cons (q_set (i := 9) sc__law_tableR.nd (q_fz (q_tup (q_cons (q_op op_mod ok_I (q_op op_fdiv ok_I (q_var 8) (q_int)) (q_var 3)) (q_cons (q_ixU (hu_of hr) (q_str) (q_op op_mod ok_I (q_op op_fdiv ok_I (q_var 8) (q_int)) (q_int))) (q_cons (q_op op_mod ok_I (q_op op_fdiv ok_I (q_var 8) (q_int)) (q_var 2)) (q_nil))))))) <|
    qs_cons (q_ifs (q_tcmp op_eq ok_Eq (q_op op_mod ok_I (q_var 8) (q_int)) (q_int) (nomark _)) (qs_one (q_set (i := 9) sc__law_tableR.nd (q_fz (q_non)))) (qs_nil)) <|
    qs_one (q_expr (q_lm PySem.F.slot_list_append PySem.F.type_list_append mt_append ok_App (q_var 6) (q_cons (q_var 9) (q_nil)))))) <|
    qs_one (q_expr (q_lm PySem.F.slot_list_append PySem.F.type_list_append mt_append ok_App (q_var 4) (q_cons (q_frz 6) (q_nil)))))) <|
    qs_one (q_ret (q_mov 4))
theorem ok__law_behindN (T : Txt K mg D) : FnOk P w K mg base (L2.CX P w) 1 D.a__law_behindN D.d__law_behindN ["_law_table_here", "_law_context", "_law_lefts", "_law_rights"] (spV K [.F, .F, .F, .F] [.F, .F, .F, .F] (W__law_behindN D.A)) := by
  refine fn_ok T.F__law_behindN sc__law_behindN rfl rfl (by decide) (w' := w__law_behindN D.A) (fun cdv A outer s H E hr => ?_) (fun ds P hl h => d__law_behindN D.A ds P h)
  unfold w__law_behindN
  exact qs_cons (q_asg (q_var 1) (q_gtup rfl (q_gcons (q_gname 4 sc__law_behindN.nd) (q_gcons (q_gname 5 sc__law_behindN.nd) (q_gcons (q_gname 6 sc__law_behindN.nd) (q_gcons (q_gname 7 sc__law_behindN.nd) (q_gnil))))))) <|
    qs_cons (q_set (i := 8) sc__law_behindN.nd (q_fz (q_ixU (hu_of hr) (q_ixU (hu_of hr) (q_var 0) (q_var 5)) (q_var 6)))) <|
    qs_cons (q_ifs (q_tcmp op_isN ok_IsN (q_var 8) (q_non) (nomark _)) (qs_one (q_ret (q_non))) (qs_nil)) <|
    qs_cons (q_ifs (q_tcmp (op_eqD (hu64 hr)) ok_EqX (q_ixU (hu_of hr) (q_var 8) (q_int)) (q_str) (nomark _)) (qs_cons (q_set (i := 9) sc__law_behindN.nd (q_fz (q_op op_addU ok_Add (q_tup (q_cons (q_ixU (hu_of hr) (q_var 8) (q_int)) (q_nil))) (q_sl (q_var 4) (q_no) (q_so (q_op op_sub ok_I0 (q_callB call_lenU ok_Len (by rfl) T.n_len (by rfl) (q_cons (q_var 4) (q_nil))) (q_int))))))) <|
    qs_one (q_ret (q_tup (q_cons (q_str) (q_cons (q_var 4) (q_cons (q_lc (own := [("_law_gram", 10)]) [] rfl sc__law_behindN.nd (qi_nd (q_var 3)) (blkOk_by (N := ["_law_table_here", "_law_context", "_law_lefts", "_law_rights", "_law_left", "_law_state", "_law_sign", "_law_right", "_law_entry", "_law_inner", "_law_gram"]) (sc := defScope s__law_behindN) (by decide +kernel)) (fun _ _ _ _ _ => q_gname 10 sc__law_behindN.nd) (fun _ _ _ _ _ => q_tsone (q_tcmp (op_eqD (hu64 hr)) ok_EqX (q_sl (q_var 10) (q_no) (q_so (q_op op_sub ok_I0 (q_callB call_lenU ok_Len (by rfl) T.n_len (by rfl) (q_cons (q_var 10) (q_nil))) (q_int)))) (q_sl (q_var 7) (q_so (q_int)) (q_no)) (nomark _))) (fun _ _ _ _ _ => q_tup (q_cons (q_var 9) (q_cons (q_ixU (hu_of hr) (q_var 8) (q_int)) (q_cons (q_ixU (hu_of hr) (q_var 7) (q_int)) (q_cons (q_var 10) (q_nil))))))) (q_nil))))))) (qs_nil)) <|
    qs_cons (q_set (i := 9) sc__law_behindN.nd (q_fz (q_op op_addU ok_Add (q_tup (q_cons (q_ixU (hu_of hr) (q_var 8) (q_int)) (q_nil))) (q_sl (q_var 7) (q_no) (q_so (q_op op_sub ok_I0 (q_callB call_lenU ok_Len (by rfl) T.n_len (by rfl) (q_cons (q_var 7) (q_nil))) (q_int))))))) <|
    qs_one (q_ret (q_tup (q_cons (q_str) (q_cons (q_var 7) (q_cons (q_lc (own := [("_law_gram", 10)]) [] rfl sc__law_behindN.nd (qi_nd (q_var 2)) (blkOk_by (N := ["_law_table_here", "_law_context", "_law_lefts", "_law_rights", "_law_left", "_law_state", "_law_sign", "_law_right", "_law_entry", "_law_inner", "_law_gram"]) (sc := defScope s__law_behindN) (by decide +kernel)) (fun _ _ _ _ _ => q_gname 10 sc__law_behindN.nd) (fun _ _ _ _ _ => q_tsone (q_tcmp (op_eqD (hu64 hr)) ok_EqX (q_sl (q_var 10) (q_no) (q_so (q_op op_sub ok_I0 (q_callB call_lenU ok_Len (by rfl) T.n_len (by rfl) (q_cons (q_var 10) (q_nil))) (q_int)))) (q_sl (q_var 4) (q_so (q_int)) (q_no)) (nomark _))) (fun _ _ _ _ _ => q_tup (q_cons (q_var 10) (q_cons (q_ixU (hu_of hr) (q_var 8) (q_int)) (q_cons (q_ixU (hu_of hr) (q_var 4) (q_int)) (q_cons (q_var 9) (q_nil))))))) (q_nil))))))
theorem ok__law_least (T : Txt K mg D) : FnOk P w K mg base (L2.CX P w) 2 D.a__law_least D.d__law_least ["_law_table_here", "_law_width"] (spV K [.F, .F] [.F, .F] (W__law_least D.A)) := by
  refine fn_ok T.F__law_least sc__law_least rfl rfl (by decide) (w' := w__law_least D.A) (fun cdv A outer s H E hr => ?_) (fun ds P hl h => d__law_least D.A ds P h)
  unfold w__law_least
  exact qs_cons (q_set (i := 2) sc__law_least.nd (q_fz (q_op op_mulX ok_MulX (q_tup (q_cons (q_int) (q_nil))) (q_var 1)))) <|
    qs_cons (q_set (i := 3) sc__law_least.nd (q_dispO (m := .N) (qp_cons (j := { line := 0, col := 0, endLine := 0, endCol := 0 }) pe_str (q_dispN (hu64 hr) (q_var 2) (q_bl)) (qp_cons (j := { line := 0, col := 0, endLine := 0, endCol := 0 }) pe_str (q_dispN (hu64 hr) (q_var 2) (q_bl)) (qp_cons (j := { line := 0, col := 0, endLine := 0, endCol := 0 }) pe_str (q_dispN (hu64 hr) (q_tup (q_cons (q_var 2) (q_cons (q_int) (q_cons (q_int) (q_cons (q_var 2) (q_nil)))))) (q_bl)) (qp_nil)))))) <|
    qs_cons (q_set (i := 4) sc__law_least.nd (q_fz (q_int))) <|
    qs_cons (q_while (passes_of rfl) (PW.pt (qw_and (q_tcmp op_lt ok_B0 (q_var 4) (q_op op_addU ok_Add (q_op op_addU ok_Add (q_callB call_lenX ok_LenX (by rfl) T.n_len (by rfl) (q_cons (q_ixX (hu64 hr) (q_var 3) (q_str)) (q_nil))) (q_callB call_lenX ok_LenX (by rfl) T.n_len (by rfl) (q_cons (q_ixX (hu64 hr) (q_var 3) (q_str)) (q_nil)))) (q_callB call_lenX ok_LenX (by rfl) T.n_len (by rfl) (q_cons (q_ixX (hu64 hr) (q_var 3) (q_str)) (q_nil)))) (nomark _)) (qw_and1 (q_tcmp op_lt ok_B0 (q_callB call_lenX ok_LenX (by rfl) T.n_len (by rfl) (q_cons (q_ixX (hu64 hr) (q_var 3) (q_str)) (q_nil))) (q_int) (nomark _))))) (qs_cons (q_set (i := 4) sc__law_least.nd (q_fz (q_op op_addU ok_Add (q_op op_addU ok_Add (q_callB call_lenX ok_LenX (by rfl) T.n_len (by rfl) (q_cons (q_ixX (hu64 hr) (q_var 3) (q_str)) (q_nil))) (q_callB call_lenX ok_LenX (by rfl) T.n_len (by rfl) (q_cons (q_ixX (hu64 hr) (q_var 3) (q_str)) (q_nil)))) (q_callB call_lenX ok_LenX (by rfl) T.n_len (by rfl) (q_cons (q_ixX (hu64 hr) (q_var 3) (q_str)) (q_nil)))))) <|
    qs_one (q_for (passes_of rfl) rfl (qi_seq (q_callTy (call_listX rfl) ok_ListX (by rfl) T.n_list (by rfl) (q_cons (q_ixX (hu64 hr) (q_var 3) (q_str)) (q_nil)))) (q_gname 5 sc__law_least.nd) (qs_cons (q_set (i := 6) sc__law_least.nd (q_fz (q_lendD 3 (q_call (ok__law_behindN T) (hr.mono (by decide)) T.m__law_behindN T.F__law_behindN.kp T.b__law_behindN (takes_of rfl rfl rfl rfl) (q_cons (q_var 0) (q_cons (q_var 5) (q_cons (q_ixX (hu64 hr) (q_var 3) (q_str)) (q_cons (q_ixX (hu64 hr) (q_var 3) (q_str)) (q_nil))))))))) <|
    qs_cons (q_ifs (q_tcmp op_isN ok_IsN (q_var 6) (q_non) (nomark _)) (qs_one (q_ret (q_non))) (qs_nil)) <|
    qs_cons (q_asg (q_var 6) (q_gtup rfl (q_gcons (q_gname 7 sc__law_least.nd) (q_gcons (q_gname 8 sc__law_least.nd) (q_gcons (q_gname 9 sc__law_least.nd) (q_gnil)))))) <|
    qs_cons (q_subN (hu64 hr) (q_ixX (hu64 hr) (q_var 3) (q_var 7)) (q_var 8) (q_bl)) <|
    qs_one (q_for (passes_of rfl) rfl (qi_seq (q_var 9)) (q_gname 10 sc__law_least.nd) (qs_one (q_subN (hu64 hr) (q_ixX (hu64 hr) (q_var 3) (q_str)) (q_var 10) (q_bl)))))))) <|
    qs_one (q_ret (q_tup (q_cons (q_str) (q_cons (q_var 1) (q_cons (q_callB (cr_sortedG (hu64 hr)) ok_SortedX (by rfl) T.n_sorted (by rfl) (q_cons (q_callTy (call_listX rfl) ok_ListX (by rfl) T.n_list (by rfl) (q_cons (q_ixX (hu64 hr) (q_var 3) (q_str)) (q_nil))) (q_nil))) (q_cons (q_callB (cr_sortedG (hu64 hr)) ok_SortedX (by rfl) T.n_sorted (by rfl) (q_cons (q_callTy (call_listX rfl) ok_ListX (by rfl) T.n_list (by rfl) (q_cons (q_ixX (hu64 hr) (q_var 3) (q_str)) (q_nil))) (q_nil))) (q_cons (q_callB (cr_sortedG (hu64 hr)) ok_SortedX (by rfl) T.n_sorted (by rfl) (q_cons (q_callTy (call_listX rfl) ok_ListX (by rfl) T.n_list (by rfl) (q_cons (q_ixX (hu64 hr) (q_var 3) (q_str)) (q_nil))) (q_nil))) (q_nil))))))))
theorem ok__law_refused (T : Txt K mg D) : FnOk P w K mg base (L2.CX P w) 4 D.a__law_refused D.d__law_refused ["_law_machine", "_law_width"] (spV K [.F, .F] [.F, .F] (W__law_refused D.A)) := by
  refine fn_ok T.F__law_refused sc__law_refused rfl rfl (by decide) (w' := w__law_refused D.A) (fun cdv A outer s H E hr => ?_) (fun ds P hl h => d__law_refused D.A ds P h)
  unfold w__law_refused
  exact qs_cons (q_set (i := 2) sc__law_refused.nd (q_fz (q_non))) <|
    qs_cons (q_tryK (i := 3) (j := 2) T.xm_NoWidth_TapeError T.m_TapeError sc__law_refused.nd (takes_of rfl rfl rfl rfl) (fun _ _ _ tk _ => (qs_one (q_expr (q_call (ok_wall_ofN T) (hr.mono (by decide)) T.m_wall_ofN T.F_wall_ofN.kp T.b_wall_ofN tk (q_cons (q_var 0) (q_cons (q_var 1) (q_cons (q_int) (q_nil)))))))) (hsu := fun _ _ _ => ps_copy sc__law_refused.nd)) <|
    qs_cons (q_ifs (PW.pt (qw_or (q_tval (q_isKM T.ec_NoWidth (.cons (.own _) (.cons (.own _) (.cons (.own _) (.cons (.own _) .nil)))) (kany_f T.ik_NoWidth_NoMachine (kany_f T.ik_NoWidth_NoMove (kany_f T.ik_NoWidth_NoShape (kany_f T.ik_NoWidth_NoText rfl)))) T.n_isinstance (pa_cons (pe_glob (by rfl) T.m_NoMachine rfl) (pa_cons (pe_glob (by rfl) T.m_NoMove rfl) (pa_cons (pe_glob (by rfl) T.m_NoShape rfl) (pa_cons (pe_glob (by rfl) T.m_NoText rfl) pa_nil)))) (q_var 2) (hl := (by show 4 ≤ sizeLine; decide)))) (qw_or1 (q_not (q_tval (q_isKT "ValueError" T.ec_NoWidth T.it_NoWidth_ValueError T.n_isinstance T.n_ValueError (q_var 2))))))) (qs_one (q_ret (q_bl))) (qs_nil)) <|
    qs_one (q_ret (q_isK T.ec_NoWidth T.ik_NoWidth_NoWidth T.n_isinstance T.m_NoWidth (q_var 2)))
theorem ok__law_fits (T : Txt K mg D) : FnOk P w K mg base (L2.CX P w) 7 D.a__law_fits D.d__law_fits ["_law_machine", "_law_width", "_law_most", "_law_shut"] (spV K [.F, .F, .F, .F] [.F, .F, .F, .F] (W__law_fits D.A)) := by
  refine fn_ok T.F__law_fits sc__law_fits rfl rfl (by decide) (w' := w__law_fits D.A) (fun cdv A outer s H E hr => ?_) (fun ds P hl h => d__law_fits D.A ds P h)
  unfold w__law_fits
  exact qs_cons (q_set (i := 4) sc__law_fits.nd (q_fz (q_call (ok_wall_ofN T) (hr.mono (by decide)) T.m_wall_ofN T.F_wall_ofN.kp T.b_wall_ofN (takes_of rfl rfl rfl rfl) (q_cons (q_var 0) (q_cons (q_var 1) (q_cons (q_var 2) (q_nil))))))) <|
    qs_cons (q_ifs (PW.pt (qw_or (q_tcmp op_isN ok_IsN (q_var 3) (q_non) (nomark _)) (qw_or1 (q_tcmp op_gt ok_B0 (q_callB call_lenU ok_Len (by rfl) T.n_len (by rfl) (q_cons (q_ixU (hu_of hr) (q_var 3) (q_int)) (q_nil))) (q_var 2) (nomark _))))) (qs_one (q_ret (q_cmp op_isN ok_IsN (q_var 4) (q_non) (nomark _)))) (qs_nil)) <|
    qs_one (q_ret (q_call (ok__law_sameE T 6) (hr.mono (by decide)) T.m__law_sameE T.F__law_sameE.kp T.b__law_sameE (takes_of rfl rfl rfl rfl) (q_cons (q_var 4) (q_cons (q_var 3) (q_nil)))))
theorem ok__law_one (T : Txt K mg D) : FnOk P w K mg base (L2.CX P w) 8 D.a__law_one D.d__law_one ["_law_script", "_law_at"] (spV K [.F, .P (.L .F)] [.F, .P (.L .F)] (W__law_one D.A)) := by
  refine fn_ok T.F__law_one sc__law_one rfl rfl (by decide) (w' := w__law_one D.A) (fun cdv A outer s H E hr => ?_) (fun ds P hl h => d__law_one D.A ds P h)
  unfold w__law_one
  exact qs_cons (q_set (i := 2) sc__law_one.nd (q_fz (q_call (ok__law_nextR T) (hr.mono (by decide)) T.m__law_nextR T.F__law_nextR.kp T.b__law_nextR (takes_of rfl rfl rfl rfl) (q_cons (q_var 0) (q_cons (q_var 1) (q_nil)))))) <|
    qs_cons (q_set (i := 3) sc__law_one.nd (q_fz (q_op op_addU ok_Add (q_int) (q_op op_mod ok_I (q_var 2) (q_int))))) <|
    qs_cons (q_set (i := 4) sc__law_one.nd (q_fz (q_int))) <|
    qs_cons (q_ifs (q_tcmp op_eq ok_Eq (q_var 3) (q_int) (nomark _)) (qs_one (q_set (i := 4) sc__law_one.nd (q_fz (q_op op_addU ok_Add (q_int) (q_op op_mod ok_I (q_op op_fdiv ok_I (q_var 2) (q_int)) (q_int)))))) (qs_nil)) <|
    qs_cons (q_set (i := 5) sc__law_one.nd (q_fz (q_call (ok__law_tableR T) (hr.mono (by decide)) T.m__law_tableR T.F__law_tableR.kp T.b__law_tableR (takes_of rfl rfl rfl rfl) (q_cons (q_var 0) (q_cons (q_var 1) (q_cons (q_op op_addU ok_Add (q_int) (q_op op_mod ok_I (q_op op_fdiv ok_I (q_var 2) (q_int)) (q_int))) (q_cons (q_var 3) (q_nil)))))))) <|
    qs_cons (q_set (i := 6) sc__law_one.nd (q_fz (q_make T.mk_Machine (ok_Machine_init T) (hr.mono (by decide)) T.m_Machine T.b_Machine_init (takes_of rfl rfl rfl rfl) (q_cons (q_var 5) (q_nil))))) <|
    qs_cons (q_set (i := 7) sc__law_one.nd (q_fz (q_call (ok__law_least T) (hr.mono (by decide)) T.m__law_least T.F__law_least.kp T.b__law_least (takes_of rfl rfl rfl rfl) (q_cons (q_var 5) (q_cons (q_var 4) (q_nil)))))) <|
    qs_cons (q_ifs (q_not (q_tval (q_call (ok__law_fits T) (hr.mono (by decide)) T.m__law_fits T.F__law_fits.kp T.b__law_fits (takes_of rfl rfl rfl rfl) (q_cons (q_var 6) (q_cons (q_var 4) (q_cons (q_ixU (hu_of hr) (q_lst (q_cons (q_int) (q_cons (q_int) (q_cons (q_op op_mod ok_I (q_op op_fdiv ok_I (q_var 2) (q_int)) (q_int)) (q_cons (q_int) (q_nil)))))) (q_op op_mod ok_I (q_op op_fdiv ok_I (q_var 2) (q_int)) (q_int))) (q_cons (q_var 7) (q_nil)))))))) (qs_one (q_ret (q_bl))) (qs_nil)) <|
    qs_cons (q_ifs (q_not (q_tval (q_call (ok__law_refused T) (hr.mono (by decide)) T.m__law_refused T.F__law_refused.kp T.b__law_refused (takes_of rfl rfl rfl rfl) (q_cons (q_var 6) (q_cons (q_un un_neg ok_Neg (q_op op_mod ok_I (q_op op_fdiv ok_I (q_var 2) (q_int)) (q_int))) (q_nil)))))) (qs_one (q_ret (q_bl))) (qs_nil)) <|
    qs_cons (q_ifs (PW.pt (qw_or (q_tcmp op_isN ok_IsN (q_var 7) (q_non) (nomark _)) (qw_or1 (q_tcmp op_gt ok_B0 (q_callB call_lenU ok_Len (by rfl) T.n_len (by rfl) (q_cons (q_ixU (hu_of hr) (q_var 7) (q_int)) (q_nil))) (q_int) (nomark _))))) (qs_one (q_ret (q_bl))) (qs_nil)) <|
    qs_cons (q_set (i := 8) sc__law_one.nd (q_fz (q_callB call_lenU ok_Len (by rfl) T.n_len (by rfl) (q_cons (q_ixU (hu_of hr) (q_var 7) (q_int)) (q_nil))))) <|
    qs_cons (q_set (i := 9) sc__law_one.nd (q_call (ok_wall_ofN T) (hr.mono (by decide)) T.m_wall_ofN T.F_wall_ofN.kp T.b_wall_ofN (takes_of rfl rfl rfl rfl) (q_cons (q_var 6) (q_cons (q_var 4) (q_cons (q_var 8) (q_nil)))))) <|
    qs_cons (q_ifs (PW.pt (qw_or (q_not (q_tval (q_callS (n := 2) (ok__law_sameE T 6) (hr.mono (by decide)) T.m__law_sameE T.F__law_sameE.kp T.b__law_sameE (takes_of rfl rfl rfl rfl) (q_cons (q_var 9) (q_cons (q_var 7) (q_nil)))))) (qw_or1 (q_tcmp op_notN ok_NotN (q_call (ok_wall_ofN T) (hr.mono (by decide)) T.m_wall_ofN T.F_wall_ofN.kp T.b_wall_ofN (takes_of rfl rfl rfl rfl) (q_cons (q_var 6) (q_cons (q_var 4) (q_cons (q_op op_sub ok_I0 (q_var 8) (q_int)) (q_nil))))) (q_non) (nomark _))))) (qs_one (q_ret (q_bl))) (qs_nil)) <|
    qs_cons (q_forO (passes_of rfl) rfl (q_slT (q_mov 9) (q_so (q_int)) q_no) sc__law_one.nd (qs_one (q_expr (q_lm PySem.F.slot_list_append PySem.F.type_list_append mt_append ok_App (q_var 10) (q_cons (q_non) (q_nil)))))) <|
    qs_one (q_ret (q_call (ok__law_fits T) (hr.mono (by decide)) T.m__law_fits T.F__law_fits.kp T.b__law_fits (takes_of rfl rfl rfl rfl) (q_cons (q_var 6) (q_cons (q_var 4) (q_cons (q_var 8) (q_cons (q_var 7) (q_nil)))))))
theorem ok_law (T : Txt K mg D) : FnOk P w K mg base (L2.CX P w) 9 D.a_law D.d_law ["_law_script"] (spV K [.F] [.F] (W_law D.A)) := by
  refine fn_ok T.F_law sc_law rfl rfl (by decide) (w' := w_law D.A) (fun cdv A outer s H E hr => ?_) (fun ds P hl h => d_law D.A ds P h)
  unfold w_law
  exact qs_cons (q_set (i := 1) sc_law.nd (q_lst (q_cons (q_int) (q_nil)))) <|
    qs_cons (q_for (passes_of rfl) rfl (qi_range1 T.n_range (q_cons (q_op op_addU ok_Add (q_int) (q_callB (call_min2 rfl) ok_Min2 (by rfl) T.n_min (by rfl) (q_cons (q_int) (q_cons (q_op op_fdiv ok_I (q_callB call_lenU ok_Len (by rfl) T.n_len (by rfl) (q_cons (q_var 0) (q_nil))) (q_int)) (q_nil))))) (q_nil))) (q_gname 2 sc_law.nd) (qs_one (q_ifs (q_not (q_tval (q_call (ok__law_one T) (hr.mono (by decide)) T.m__law_one T.F__law_one.kp T.b__law_one (takes_of rfl rfl rfl rfl) (q_cons (q_var 0) (q_cons (q_var 1) (q_nil)))))) (qs_one (q_ret (q_bl))) (qs_nil)))) <|
    qs_one (q_ret (q_bl))
end

end My

namespace My
open PySem PySem.Spec PyProof.Rows L2 VL
def cs0 : Cs := ⟨0, 0, 0, 0, 0, 0, 0, 0, 0, 0, 0, 0, 0, 0⟩
theorem all_mk {l : PySem.W.OpenLaw} {w : World} {K : PySem.W.Frag} {h : Heap} {mg : Str → Option Value} {fa f_is_number f_entry_kept f_Machine_init f_contexts_behind f_entry_at f_grown_once f_wall_ofN f__law_nextR f__law_sameE f__law_tableR f__law_behindN f__law_least f__law_refused f__law_fits f__law_one f_law C_Machine C_NoMachine C_NoMove C_NoShape C_NoText C_NoWidth C_TapeError : Addr} (X : K.In h) (G : h.Ns mainGlobals mg) (hfa : mg "law" = some (.ref fa))
    {od_is_number an_is_number od_entry_kept an_entry_kept od_Machine_init an_Machine_init od_contexts_behind an_contexts_behind od_entry_at an_entry_at od_grown_once an_grown_once od_wall_ofN an_wall_ofN od__law_nextR an__law_nextR od__law_sameE an__law_sameE od__law_tableR an__law_tableR od__law_behindN an__law_behindN od__law_least an__law_least od__law_refused an__law_refused od__law_fits an__law_fits od__law_one an__law_one od_law an_law : Option Addr} {sl_is_number sl_entry_kept sl_Machine_init sl_contexts_behind sl_entry_at sl_grown_once sl_wall_ofN sl__law_nextR sl__law_sameE sl__law_tableR sl__law_behindN sl__law_least sl__law_refused sl__law_fits sl__law_one sl_law : Array (Option Value)} {oc_is_number kV_is_number dc_is_number pm_is_number cd_is_number ct_is_number oc_entry_kept kV_entry_kept dc_entry_kept pm_entry_kept cd_entry_kept ct_entry_kept oc_Machine_init kV_Machine_init dc_Machine_init pm_Machine_init cd_Machine_init ct_Machine_init oc_contexts_behind kV_contexts_behind dc_contexts_behind pm_contexts_behind cd_contexts_behind ct_contexts_behind oc_entry_at kV_entry_at dc_entry_at pm_entry_at cd_entry_at ct_entry_at oc_grown_once kV_grown_once dc_grown_once pm_grown_once cd_grown_once ct_grown_once oc_wall_ofN kV_wall_ofN dc_wall_ofN pm_wall_ofN cd_wall_ofN ct_wall_ofN oc__law_nextR kV__law_nextR dc__law_nextR pm__law_nextR cd__law_nextR ct__law_nextR oc__law_sameE kV__law_sameE dc__law_sameE pm__law_sameE cd__law_sameE ct__law_sameE oc__law_tableR kV__law_tableR dc__law_tableR pm__law_tableR cd__law_tableR ct__law_tableR oc__law_behindN kV__law_behindN dc__law_behindN pm__law_behindN cd__law_behindN ct__law_behindN oc__law_least kV__law_least dc__law_least pm__law_least cd__law_least ct__law_least oc__law_refused kV__law_refused dc__law_refused pm__law_refused cd__law_refused ct__law_refused oc__law_fits kV__law_fits dc__law_fits pm__law_fits cd__law_fits ct__law_fits oc__law_one kV__law_one dc__law_one pm__law_one cd__law_one ct__law_one oc_law kV_law dc_law pm_law cd_law ct_law : Value}
    (aC_NoMachine : PySem.W.nsIn K mainGlobals "NoMachine" = some (some (.ref C_NoMachine)))
    (aC_NoMove : PySem.W.nsIn K mainGlobals "NoMove" = some (some (.ref C_NoMove)))
    (aC_NoShape : PySem.W.nsIn K mainGlobals "NoShape" = some (some (.ref C_NoShape)))
    (aC_NoText : PySem.W.nsIn K mainGlobals "NoText" = some (some (.ref C_NoText)))
    (aC_NoWidth : PySem.W.nsIn K mainGlobals "NoWidth" = some (some (.ref C_NoWidth)))
    (aC_TapeError : PySem.W.nsIn K mainGlobals "TapeError" = some (some (.ref C_TapeError)))
    (e1_NoWidth : PySem.W.findIn K (.ref C_NoWidth) "__getattribute__" = some (some (.builtin "BaseException.__getattribute__")))
    (e2_NoWidth : PySem.W.findIn K (.ref C_NoWidth) "__getattr__" = some none)
    (e3_NoWidth : PySem.W.subIn K (.ref C_NoWidth) (.type "BaseException") = some true)
    (e4_NoWidth : PySem.W.hasDictIn K C_NoWidth = true)
    (e5_NoWidth : PySem.W.findIn K (.ref C_NoWidth) "__class__" = some (some (.builtin "object.__class__")))
    (e6_NoWidth : PySem.W.specialIn K (.builtin "object.__class__") "__get__" = some (some (.builtin "getset_descriptor.__get__")))
    (e7_NoWidth : PySem.W.takesIn K (.builtin "object.__class__") = some true)
    (e8_NoWidth : PySem.W.mroIn K C_NoWidth (.type "object") = some true)
    (ic_NoMachine : PySem.W.isClsIn K C_NoMachine = true)
    (it_NoMachine : PySem.W.typeIn K (.ref C_NoMachine) = some (.type "type"))
    (is_NoMachine : PySem.W.subIn K (.ref C_NoMachine) (.ref C_NoMachine) = some true)
    (sb_NoWidth_NoMachine : PySem.W.subIn K (.ref C_NoWidth) (.ref C_NoMachine) = some false)
    (ic_NoMove : PySem.W.isClsIn K C_NoMove = true)
    (it_NoMove : PySem.W.typeIn K (.ref C_NoMove) = some (.type "type"))
    (is_NoMove : PySem.W.subIn K (.ref C_NoMove) (.ref C_NoMove) = some true)
    (sb_NoWidth_NoMove : PySem.W.subIn K (.ref C_NoWidth) (.ref C_NoMove) = some false)
    (ic_NoShape : PySem.W.isClsIn K C_NoShape = true)
    (it_NoShape : PySem.W.typeIn K (.ref C_NoShape) = some (.type "type"))
    (is_NoShape : PySem.W.subIn K (.ref C_NoShape) (.ref C_NoShape) = some true)
    (sb_NoWidth_NoShape : PySem.W.subIn K (.ref C_NoWidth) (.ref C_NoShape) = some false)
    (ic_NoText : PySem.W.isClsIn K C_NoText = true)
    (it_NoText : PySem.W.typeIn K (.ref C_NoText) = some (.type "type"))
    (is_NoText : PySem.W.subIn K (.ref C_NoText) (.ref C_NoText) = some true)
    (sb_NoWidth_NoText : PySem.W.subIn K (.ref C_NoWidth) (.ref C_NoText) = some false)
    (ic_NoWidth : PySem.W.isClsIn K C_NoWidth = true)
    (it_NoWidth : PySem.W.typeIn K (.ref C_NoWidth) = some (.type "type"))
    (is_NoWidth : PySem.W.subIn K (.ref C_NoWidth) (.ref C_NoWidth) = some true)
    (sb_NoWidth_NoWidth : PySem.W.subIn K (.ref C_NoWidth) (.ref C_NoWidth) = some true)
    (sT_NoWidth_ValueError : PySem.W.subIn K (.ref C_NoWidth) (.type "ValueError") = some true)
    (r1_NoWidth : PySem.W.excIn K C_NoWidth [.type "ValueError", .type "Exception", .type "BaseException", .type "object"] "ValueError.__new__" = true)
    (r2_NoWidth : PySem.W.subIn K (.ref C_NoWidth) (.type "BaseException") = some true)
    (r3_NoWidth : PySem.W.typeIn K (.ref C_NoWidth) = some (.type "type"))
    (r4_NoWidth : PySem.W.keepIn K (.ref C_NoWidth) = true)
    (ic_TapeError : PySem.W.isClsIn K C_TapeError = true)
    (it_TapeError : PySem.W.typeIn K (.ref C_TapeError) = some (.type "type"))
    (is_TapeError : PySem.W.subIn K (.ref C_TapeError) (.ref C_TapeError) = some true)
    (sb_NoWidth_TapeError : PySem.W.subIn K (.ref C_NoWidth) (.ref C_TapeError) = some true)
    (xb_TapeError : PySem.W.subIn K (.ref C_TapeError) (.type "BaseException") = some true)
    (aC_Machine : PySem.W.nsIn K mainGlobals "Machine" = some (some (.ref C_Machine)))
    (a_is_number : PySem.W.nsIn K mainGlobals "is_number" = some (some (.ref f_is_number)))
    (l_is_number : K.lookup f_is_number = some ⟨oc_is_number, od_is_number, .func (PySem.W.fnOf "is_number" "is_number" (defArgs s_is_number) (defBody s_is_number) (defScope s_is_number) .none kV_is_number dc_is_number pm_is_number an_is_number cd_is_number ct_is_number), sl_is_number⟩)
    (c_is_number : PySem.W.codeIn K cd_is_number "is_number" = true)
    (k_is_number : PySem.W.keepIn K (.ref f_is_number) = true)
    (a_entry_kept : PySem.W.nsIn K mainGlobals "entry_kept" = some (some (.ref f_entry_kept)))
    (l_entry_kept : K.lookup f_entry_kept = some ⟨oc_entry_kept, od_entry_kept, .func (PySem.W.fnOf "entry_kept" "entry_kept" (defArgs s_entry_kept) (defBody s_entry_kept) (defScope s_entry_kept) .none kV_entry_kept dc_entry_kept pm_entry_kept an_entry_kept cd_entry_kept ct_entry_kept), sl_entry_kept⟩)
    (c_entry_kept : PySem.W.codeIn K cd_entry_kept "entry_kept" = true)
    (k_entry_kept : PySem.W.keepIn K (.ref f_entry_kept) = true)
    (a_Machine_init : PySem.W.findIn K (.ref C_Machine) "__init__" = some (some (.ref f_Machine_init)))
    (i_Machine_init : PySem.W.isFn K (.ref f_Machine_init) = true)
    (l_Machine_init : K.lookup f_Machine_init = some ⟨oc_Machine_init, od_Machine_init, .func (PySem.W.fnOf "__init__" "Machine.__init__" (defArgs s_Machine_init) (defBody s_Machine_init) (defScope s_Machine_init) .none kV_Machine_init dc_Machine_init pm_Machine_init an_Machine_init cd_Machine_init ct_Machine_init), sl_Machine_init⟩)
    (c_Machine_init : PySem.W.codeIn K cd_Machine_init "Machine.__init__" = true)
    (k_Machine_init : PySem.W.keepIn K (.ref f_Machine_init) = true)
    (a_contexts_behind : PySem.W.nsIn K mainGlobals "contexts_behind" = some (some (.ref f_contexts_behind)))
    (l_contexts_behind : K.lookup f_contexts_behind = some ⟨oc_contexts_behind, od_contexts_behind, .func (PySem.W.fnOf "contexts_behind" "contexts_behind" (defArgs s_contexts_behind) (defBody s_contexts_behind) (defScope s_contexts_behind) .none kV_contexts_behind dc_contexts_behind pm_contexts_behind an_contexts_behind cd_contexts_behind ct_contexts_behind), sl_contexts_behind⟩)
    (c_contexts_behind : PySem.W.codeIn K cd_contexts_behind "contexts_behind" = true)
    (k_contexts_behind : PySem.W.keepIn K (.ref f_contexts_behind) = true)
    (a_entry_at : PySem.W.nsIn K mainGlobals "entry_at" = some (some (.ref f_entry_at)))
    (l_entry_at : K.lookup f_entry_at = some ⟨oc_entry_at, od_entry_at, .func (PySem.W.fnOf "entry_at" "entry_at" (defArgs s_entry_at) (defBody s_entry_at) (defScope s_entry_at) .none kV_entry_at dc_entry_at pm_entry_at an_entry_at cd_entry_at ct_entry_at), sl_entry_at⟩)
    (c_entry_at : PySem.W.codeIn K cd_entry_at "entry_at" = true)
    (k_entry_at : PySem.W.keepIn K (.ref f_entry_at) = true)
    (a_grown_once : PySem.W.nsIn K mainGlobals "grown_once" = some (some (.ref f_grown_once)))
    (l_grown_once : K.lookup f_grown_once = some ⟨oc_grown_once, od_grown_once, .func (PySem.W.fnOf "grown_once" "grown_once" (defArgs s_grown_once) (defBody s_grown_once) (defScope s_grown_once) .none kV_grown_once dc_grown_once pm_grown_once an_grown_once cd_grown_once ct_grown_once), sl_grown_once⟩)
    (c_grown_once : PySem.W.codeIn K cd_grown_once "grown_once" = true)
    (k_grown_once : PySem.W.keepIn K (.ref f_grown_once) = true)
    (a_wall_ofN : PySem.W.nsIn K mainGlobals "wall_of" = some (some (.ref f_wall_ofN)))
    (l_wall_ofN : K.lookup f_wall_ofN = some ⟨oc_wall_ofN, od_wall_ofN, .func (PySem.W.fnOf "wall_of" "wall_of" (defArgs s_wall_ofN) (defBody s_wall_ofN) (defScope s_wall_ofN) .none kV_wall_ofN dc_wall_ofN pm_wall_ofN an_wall_ofN cd_wall_ofN ct_wall_ofN), sl_wall_ofN⟩)
    (c_wall_ofN : PySem.W.codeIn K cd_wall_ofN "wall_of" = true)
    (k_wall_ofN : PySem.W.keepIn K (.ref f_wall_ofN) = true)
    (a__law_nextR : PySem.W.nsIn K mainGlobals "_law_next" = some (some (.ref f__law_nextR)))
    (l__law_nextR : K.lookup f__law_nextR = some ⟨oc__law_nextR, od__law_nextR, .func (PySem.W.fnOf "_law_next" "_law_next" (defArgs s__law_nextR) (defBody s__law_nextR) (defScope s__law_nextR) .none kV__law_nextR dc__law_nextR pm__law_nextR an__law_nextR cd__law_nextR ct__law_nextR), sl__law_nextR⟩)
    (c__law_nextR : PySem.W.codeIn K cd__law_nextR "_law_next" = true)
    (k__law_nextR : PySem.W.keepIn K (.ref f__law_nextR) = true)
    (a__law_sameE : PySem.W.nsIn K mainGlobals "_law_same" = some (some (.ref f__law_sameE)))
    (l__law_sameE : K.lookup f__law_sameE = some ⟨oc__law_sameE, od__law_sameE, .func (PySem.W.fnOf "_law_same" "_law_same" (defArgs s__law_sameE) (defBody s__law_sameE) (defScope s__law_sameE) .none kV__law_sameE dc__law_sameE pm__law_sameE an__law_sameE cd__law_sameE ct__law_sameE), sl__law_sameE⟩)
    (c__law_sameE : PySem.W.codeIn K cd__law_sameE "_law_same" = true)
    (k__law_sameE : PySem.W.keepIn K (.ref f__law_sameE) = true)
    (a__law_tableR : PySem.W.nsIn K mainGlobals "_law_table" = some (some (.ref f__law_tableR)))
    (l__law_tableR : K.lookup f__law_tableR = some ⟨oc__law_tableR, od__law_tableR, .func (PySem.W.fnOf "_law_table" "_law_table" (defArgs s__law_tableR) (defBody s__law_tableR) (defScope s__law_tableR) .none kV__law_tableR dc__law_tableR pm__law_tableR an__law_tableR cd__law_tableR ct__law_tableR), sl__law_tableR⟩)
    (c__law_tableR : PySem.W.codeIn K cd__law_tableR "_law_table" = true)
    (k__law_tableR : PySem.W.keepIn K (.ref f__law_tableR) = true)
    (a__law_behindN : PySem.W.nsIn K mainGlobals "_law_behind" = some (some (.ref f__law_behindN)))
    (l__law_behindN : K.lookup f__law_behindN = some ⟨oc__law_behindN, od__law_behindN, .func (PySem.W.fnOf "_law_behind" "_law_behind" (defArgs s__law_behindN) (defBody s__law_behindN) (defScope s__law_behindN) .none kV__law_behindN dc__law_behindN pm__law_behindN an__law_behindN cd__law_behindN ct__law_behindN), sl__law_behindN⟩)
    (c__law_behindN : PySem.W.codeIn K cd__law_behindN "_law_behind" = true)
    (k__law_behindN : PySem.W.keepIn K (.ref f__law_behindN) = true)
    (a__law_least : PySem.W.nsIn K mainGlobals "_law_least" = some (some (.ref f__law_least)))
    (l__law_least : K.lookup f__law_least = some ⟨oc__law_least, od__law_least, .func (PySem.W.fnOf "_law_least" "_law_least" (defArgs s__law_least) (defBody s__law_least) (defScope s__law_least) .none kV__law_least dc__law_least pm__law_least an__law_least cd__law_least ct__law_least), sl__law_least⟩)
    (c__law_least : PySem.W.codeIn K cd__law_least "_law_least" = true)
    (k__law_least : PySem.W.keepIn K (.ref f__law_least) = true)
    (a__law_refused : PySem.W.nsIn K mainGlobals "_law_refused" = some (some (.ref f__law_refused)))
    (l__law_refused : K.lookup f__law_refused = some ⟨oc__law_refused, od__law_refused, .func (PySem.W.fnOf "_law_refused" "_law_refused" (defArgs s__law_refused) (defBody s__law_refused) (defScope s__law_refused) .none kV__law_refused dc__law_refused pm__law_refused an__law_refused cd__law_refused ct__law_refused), sl__law_refused⟩)
    (c__law_refused : PySem.W.codeIn K cd__law_refused "_law_refused" = true)
    (k__law_refused : PySem.W.keepIn K (.ref f__law_refused) = true)
    (a__law_fits : PySem.W.nsIn K mainGlobals "_law_fits" = some (some (.ref f__law_fits)))
    (l__law_fits : K.lookup f__law_fits = some ⟨oc__law_fits, od__law_fits, .func (PySem.W.fnOf "_law_fits" "_law_fits" (defArgs s__law_fits) (defBody s__law_fits) (defScope s__law_fits) .none kV__law_fits dc__law_fits pm__law_fits an__law_fits cd__law_fits ct__law_fits), sl__law_fits⟩)
    (c__law_fits : PySem.W.codeIn K cd__law_fits "_law_fits" = true)
    (k__law_fits : PySem.W.keepIn K (.ref f__law_fits) = true)
    (a__law_one : PySem.W.nsIn K mainGlobals "_law_one" = some (some (.ref f__law_one)))
    (l__law_one : K.lookup f__law_one = some ⟨oc__law_one, od__law_one, .func (PySem.W.fnOf "_law_one" "_law_one" (defArgs s__law_one) (defBody s__law_one) (defScope s__law_one) .none kV__law_one dc__law_one pm__law_one an__law_one cd__law_one ct__law_one), sl__law_one⟩)
    (c__law_one : PySem.W.codeIn K cd__law_one "_law_one" = true)
    (k__law_one : PySem.W.keepIn K (.ref f__law_one) = true)
    (a_law : PySem.W.nsIn K mainGlobals "law" = some (some (.ref f_law)))
    (l_law : K.lookup f_law = some ⟨oc_law, od_law, .func (PySem.W.fnOf "law" "law" (defArgs s_law) (defBody s_law) (defScope s_law) .none kV_law dc_law pm_law an_law cd_law ct_law), sl_law⟩)
    (c_law : PySem.W.codeIn K cd_law "law" = true)
    (k_law : PySem.W.keepIn K (.ref f_law) = true)
    (pg_Machine : PySem.W.plainGet K C_Machine Str.empty = true)
    (hd_Machine : PySem.W.hasDictIn K C_Machine = true)
    (po_Machine : PySem.W.plainOver K C_Machine = true)
    (sa_Machine : PySem.W.findIn K (.ref C_Machine) "__setattr__" = some (some (.builtin "object.__setattr__")))
    (mk_Machine : PySem.W.makesIn K C_Machine = true)
    (kc_Machine : PySem.W.keepIn K (.ref C_Machine) = true)
    (n_Machine_table : PySem.W.findIn K (.ref C_Machine) "table" = some none)
    (z_ValueError : PySem.W.nsIn K mainGlobals "ValueError" = some none)
    (z_all : PySem.W.nsIn K mainGlobals "all" = some none)
    (z_bool : PySem.W.nsIn K mainGlobals "bool" = some none)
    (z_dict : PySem.W.nsIn K mainGlobals "dict" = some none)
    (z_int : PySem.W.nsIn K mainGlobals "int" = some none)
    (z_isinstance : PySem.W.nsIn K mainGlobals "isinstance" = some none)
    (z_len : PySem.W.nsIn K mainGlobals "len" = some none)
    (z_list : PySem.W.nsIn K mainGlobals "list" = some none)
    (z_min : PySem.W.nsIn K mainGlobals "min" = some none)
    (z_range : PySem.W.nsIn K mainGlobals "range" = some none)
    (z_sorted : PySem.W.nsIn K mainGlobals "sorted" = some none)
    (z_str : PySem.W.nsIn K mainGlobals "str" = some none)
    (z_tuple : PySem.W.nsIn K mainGlobals "tuple" = some none)
    (z_zip : PySem.W.nsIn K mainGlobals "zip" = some none)
    : ∃ fd : FuncData, (∀ (s : Shared) (v : Value), BindsTo s fd ⟨[v], []⟩ [("_law_script", v)]) ∧ ∀ base : Heap, K.In base → base.Ns mainGlobals mg → FnOk l.prog w K mg base (L2.CX l.prog w) 9 fa fd ["_law_script"] (spV K [.F] [.F] (W_law cs0)) := by
  have e : f_law = fa := by simpa using (PySem.W.mg_of X G a_law).symm.trans hfa
  subst e
  let A : Cs := { C_Machine := C_Machine, C_Run := 0, C_NoMachine := C_NoMachine, C_NoShot := 0, C_TapeError := C_TapeError, C_NoNames := 0, C_NoNumber := 0, C_NoStretches := 0, C_TooLong := 0, C_NoShape := C_NoShape, C_NoMove := C_NoMove, C_NoWidth := C_NoWidth, C_NoText := C_NoText, C_Ribbon := 0 }
  let D : Ad := { A := A, a_is_number := f_is_number, d_is_number := PySem.W.fnOf "is_number" "is_number" (defArgs s_is_number) (defBody s_is_number) (defScope s_is_number) .none kV_is_number dc_is_number pm_is_number an_is_number cd_is_number ct_is_number, a_entry_kept := f_entry_kept, d_entry_kept := PySem.W.fnOf "entry_kept" "entry_kept" (defArgs s_entry_kept) (defBody s_entry_kept) (defScope s_entry_kept) .none kV_entry_kept dc_entry_kept pm_entry_kept an_entry_kept cd_entry_kept ct_entry_kept, a_Machine_init := f_Machine_init, d_Machine_init := PySem.W.fnOf "__init__" "Machine.__init__" (defArgs s_Machine_init) (defBody s_Machine_init) (defScope s_Machine_init) .none kV_Machine_init dc_Machine_init pm_Machine_init an_Machine_init cd_Machine_init ct_Machine_init, a_contexts_behind := f_contexts_behind, d_contexts_behind := PySem.W.fnOf "contexts_behind" "contexts_behind" (defArgs s_contexts_behind) (defBody s_contexts_behind) (defScope s_contexts_behind) .none kV_contexts_behind dc_contexts_behind pm_contexts_behind an_contexts_behind cd_contexts_behind ct_contexts_behind, a_entry_at := f_entry_at, d_entry_at := PySem.W.fnOf "entry_at" "entry_at" (defArgs s_entry_at) (defBody s_entry_at) (defScope s_entry_at) .none kV_entry_at dc_entry_at pm_entry_at an_entry_at cd_entry_at ct_entry_at, a_grown_once := f_grown_once, d_grown_once := PySem.W.fnOf "grown_once" "grown_once" (defArgs s_grown_once) (defBody s_grown_once) (defScope s_grown_once) .none kV_grown_once dc_grown_once pm_grown_once an_grown_once cd_grown_once ct_grown_once, a_wall_ofN := f_wall_ofN, d_wall_ofN := PySem.W.fnOf "wall_of" "wall_of" (defArgs s_wall_ofN) (defBody s_wall_ofN) (defScope s_wall_ofN) .none kV_wall_ofN dc_wall_ofN pm_wall_ofN an_wall_ofN cd_wall_ofN ct_wall_ofN, a__law_nextR := f__law_nextR, d__law_nextR := PySem.W.fnOf "_law_next" "_law_next" (defArgs s__law_nextR) (defBody s__law_nextR) (defScope s__law_nextR) .none kV__law_nextR dc__law_nextR pm__law_nextR an__law_nextR cd__law_nextR ct__law_nextR, a__law_sameE := f__law_sameE, d__law_sameE := PySem.W.fnOf "_law_same" "_law_same" (defArgs s__law_sameE) (defBody s__law_sameE) (defScope s__law_sameE) .none kV__law_sameE dc__law_sameE pm__law_sameE an__law_sameE cd__law_sameE ct__law_sameE, a__law_tableR := f__law_tableR, d__law_tableR := PySem.W.fnOf "_law_table" "_law_table" (defArgs s__law_tableR) (defBody s__law_tableR) (defScope s__law_tableR) .none kV__law_tableR dc__law_tableR pm__law_tableR an__law_tableR cd__law_tableR ct__law_tableR, a__law_behindN := f__law_behindN, d__law_behindN := PySem.W.fnOf "_law_behind" "_law_behind" (defArgs s__law_behindN) (defBody s__law_behindN) (defScope s__law_behindN) .none kV__law_behindN dc__law_behindN pm__law_behindN an__law_behindN cd__law_behindN ct__law_behindN, a__law_least := f__law_least, d__law_least := PySem.W.fnOf "_law_least" "_law_least" (defArgs s__law_least) (defBody s__law_least) (defScope s__law_least) .none kV__law_least dc__law_least pm__law_least an__law_least cd__law_least ct__law_least, a__law_refused := f__law_refused, d__law_refused := PySem.W.fnOf "_law_refused" "_law_refused" (defArgs s__law_refused) (defBody s__law_refused) (defScope s__law_refused) .none kV__law_refused dc__law_refused pm__law_refused an__law_refused cd__law_refused ct__law_refused, a__law_fits := f__law_fits, d__law_fits := PySem.W.fnOf "_law_fits" "_law_fits" (defArgs s__law_fits) (defBody s__law_fits) (defScope s__law_fits) .none kV__law_fits dc__law_fits pm__law_fits an__law_fits cd__law_fits ct__law_fits, a__law_one := f__law_one, d__law_one := PySem.W.fnOf "_law_one" "_law_one" (defArgs s__law_one) (defBody s__law_one) (defScope s__law_one) .none kV__law_one dc__law_one pm__law_one an__law_one cd__law_one ct__law_one, a_law := f_law, d_law := PySem.W.fnOf "law" "law" (defArgs s_law) (defBody s_law) (defScope s_law) .none kV_law dc_law pm_law an_law cd_law ct_law }
  have F_is_number := fun_mk (st := s_is_number) l_is_number c_is_number k_is_number
  have b_is_number := F_is_number.binds (ps := ["thing", "many"]) fun _ _ _ _ _ _ us hl => match us, hl with | [_, _], _ => rfl
  have F_entry_kept := fun_mk (st := s_entry_kept) l_entry_kept c_entry_kept k_entry_kept
  have b_entry_kept := F_entry_kept.binds (ps := ["entry", "states", "signs"]) fun _ _ _ _ _ _ us hl => match us, hl with | [_, _, _], _ => rfl
  have F_Machine_init := fun_mk (st := s_Machine_init) l_Machine_init c_Machine_init k_Machine_init
  have b_Machine_init := F_Machine_init.binds (ps := ["self", "table"]) fun _ _ _ _ _ _ us hl => match us, hl with | [_, _], _ => rfl
  have F_contexts_behind := fun_mk (st := s_contexts_behind) l_contexts_behind c_contexts_behind k_contexts_behind
  have b_contexts_behind := F_contexts_behind.binds (ps := ["machine", "context", "lefts", "rights"]) fun _ _ _ _ _ _ us hl => match us, hl with | [_, _, _, _], _ => rfl
  have F_entry_at := fun_mk (st := s_entry_at) l_entry_at c_entry_at k_entry_at
  have b_entry_at := F_entry_at.binds (ps := ["machine", "context"]) fun _ _ _ _ _ _ us hl => match us, hl with | [_, _], _ => rfl
  have F_grown_once := fun_mk (st := s_grown_once) l_grown_once c_grown_once k_grown_once
  have b_grown_once := F_grown_once.binds (ps := ["machine", "lefts", "rights", "contexts"]) fun _ _ _ _ _ _ us hl => match us, hl with | [_, _, _, _], _ => rfl
  have F_wall_ofN := fun_mk (st := s_wall_ofN) l_wall_ofN c_wall_ofN k_wall_ofN
  have b_wall_ofN := F_wall_ofN.binds (ps := ["machine", "width", "most"]) fun _ _ _ _ _ _ us hl => match us, hl with | [_, _, _], _ => rfl
  have F__law_nextR := fun_mk (st := s__law_nextR) l__law_nextR c__law_nextR k__law_nextR
  have b__law_nextR := F__law_nextR.binds (ps := ["_law_script", "_law_at"]) fun _ _ _ _ _ _ us hl => match us, hl with | [_, _], _ => rfl
  have F__law_sameE := fun_mk (st := s__law_sameE) l__law_sameE c__law_sameE k__law_sameE
  have b__law_sameE := F__law_sameE.binds (ps := ["_law_found", "_law_due"]) fun _ _ _ _ _ _ us hl => match us, hl with | [_, _], _ => rfl
  have F__law_tableR := fun_mk (st := s__law_tableR) l__law_tableR c__law_tableR k__law_tableR
  have b__law_tableR := F__law_tableR.binds (ps := ["_law_script", "_law_at", "_law_states", "_law_signs"]) fun _ _ _ _ _ _ us hl => match us, hl with | [_, _, _, _], _ => rfl
  have F__law_behindN := fun_mk (st := s__law_behindN) l__law_behindN c__law_behindN k__law_behindN
  have b__law_behindN := F__law_behindN.binds (ps := ["_law_table_here", "_law_context", "_law_lefts", "_law_rights"]) fun _ _ _ _ _ _ us hl => match us, hl with | [_, _, _, _], _ => rfl
  have F__law_least := fun_mk (st := s__law_least) l__law_least c__law_least k__law_least
  have b__law_least := F__law_least.binds (ps := ["_law_table_here", "_law_width"]) fun _ _ _ _ _ _ us hl => match us, hl with | [_, _], _ => rfl
  have F__law_refused := fun_mk (st := s__law_refused) l__law_refused c__law_refused k__law_refused
  have b__law_refused := F__law_refused.binds (ps := ["_law_machine", "_law_width"]) fun _ _ _ _ _ _ us hl => match us, hl with | [_, _], _ => rfl
  have F__law_fits := fun_mk (st := s__law_fits) l__law_fits c__law_fits k__law_fits
  have b__law_fits := F__law_fits.binds (ps := ["_law_machine", "_law_width", "_law_most", "_law_shut"]) fun _ _ _ _ _ _ us hl => match us, hl with | [_, _, _, _], _ => rfl
  have F__law_one := fun_mk (st := s__law_one) l__law_one c__law_one k__law_one
  have b__law_one := F__law_one.binds (ps := ["_law_script", "_law_at"]) fun _ _ _ _ _ _ us hl => match us, hl with | [_, _], _ => rfl
  have F_law := fun_mk (st := s_law) l_law c_law k_law
  have b_law := F_law.binds (ps := ["_law_script"]) fun _ _ _ _ _ _ us hl => match us, hl with | [_], _ => rfl
  have T : Txt K mg D := {
    ec_NoWidth := ⟨e1_NoWidth, e2_NoWidth, e3_NoWidth, e4_NoWidth, e5_NoWidth, e6_NoWidth, e7_NoWidth, e8_NoWidth⟩,
    ik_NoWidth_NoMachine := VL.kone_of ic_NoMachine it_NoMachine sb_NoWidth_NoMachine is_NoMachine,
    ik_NoWidth_NoMove := VL.kone_of ic_NoMove it_NoMove sb_NoWidth_NoMove is_NoMove,
    ik_NoWidth_NoShape := VL.kone_of ic_NoShape it_NoShape sb_NoWidth_NoShape is_NoShape,
    ik_NoWidth_NoText := VL.kone_of ic_NoText it_NoText sb_NoWidth_NoText is_NoText,
    ik_NoWidth_NoWidth := VL.kone_of ic_NoWidth it_NoWidth sb_NoWidth_NoWidth is_NoWidth,
    it_NoWidth_ValueError := VL.kty_of VL.meta_VE sT_NoWidth_ValueError,
    m_NoMachine := PySem.W.mg_of X G aC_NoMachine,
    m_NoMove := PySem.W.mg_of X G aC_NoMove,
    m_NoShape := PySem.W.mg_of X G aC_NoShape,
    m_NoText := PySem.W.mg_of X G aC_NoText,
    m_NoWidth := PySem.W.mg_of X G aC_NoWidth,
    m_TapeError := PySem.W.mg_of X G aC_TapeError,
    rs_NoWidth := ⟨r1_NoWidth, r2_NoWidth, r3_NoWidth, r4_NoWidth⟩,
    xm_NoWidth_TapeError := VL.xm_of xb_TapeError ic_TapeError it_TapeError sb_NoWidth_TapeError,
    n_ValueError := PySem.W.mg_none_of X G z_ValueError,
    n_all := PySem.W.mg_none_of X G z_all,
    n_bool := PySem.W.mg_none_of X G z_bool,
    n_dict := PySem.W.mg_none_of X G z_dict,
    n_int := PySem.W.mg_none_of X G z_int,
    n_isinstance := PySem.W.mg_none_of X G z_isinstance,
    n_len := PySem.W.mg_none_of X G z_len,
    n_list := PySem.W.mg_none_of X G z_list,
    n_min := PySem.W.mg_none_of X G z_min,
    n_range := PySem.W.mg_none_of X G z_range,
    n_sorted := PySem.W.mg_none_of X G z_sorted,
    n_str := PySem.W.mg_none_of X G z_str,
    n_tuple := PySem.W.mg_none_of X G z_tuple,
    n_zip := PySem.W.mg_none_of X G z_zip,
    F_is_number := F_is_number, b_is_number := b_is_number,
    m_is_number := PySem.W.mg_of X G a_is_number,
    F_entry_kept := F_entry_kept, b_entry_kept := b_entry_kept,
    m_entry_kept := PySem.W.mg_of X G a_entry_kept,
    F_Machine_init := F_Machine_init, b_Machine_init := b_Machine_init,
    F_contexts_behind := F_contexts_behind, b_contexts_behind := b_contexts_behind,
    m_contexts_behind := PySem.W.mg_of X G a_contexts_behind,
    F_entry_at := F_entry_at, b_entry_at := b_entry_at,
    m_entry_at := PySem.W.mg_of X G a_entry_at,
    F_grown_once := F_grown_once, b_grown_once := b_grown_once,
    m_grown_once := PySem.W.mg_of X G a_grown_once,
    F_wall_ofN := F_wall_ofN, b_wall_ofN := b_wall_ofN,
    m_wall_ofN := PySem.W.mg_of X G a_wall_ofN,
    F__law_nextR := F__law_nextR, b__law_nextR := b__law_nextR,
    m__law_nextR := PySem.W.mg_of X G a__law_nextR,
    F__law_sameE := F__law_sameE, b__law_sameE := b__law_sameE,
    m__law_sameE := PySem.W.mg_of X G a__law_sameE,
    F__law_tableR := F__law_tableR, b__law_tableR := b__law_tableR,
    m__law_tableR := PySem.W.mg_of X G a__law_tableR,
    F__law_behindN := F__law_behindN, b__law_behindN := b__law_behindN,
    m__law_behindN := PySem.W.mg_of X G a__law_behindN,
    F__law_least := F__law_least, b__law_least := b__law_least,
    m__law_least := PySem.W.mg_of X G a__law_least,
    F__law_refused := F__law_refused, b__law_refused := b__law_refused,
    m__law_refused := PySem.W.mg_of X G a__law_refused,
    F__law_fits := F__law_fits, b__law_fits := b__law_fits,
    m__law_fits := PySem.W.mg_of X G a__law_fits,
    F__law_one := F__law_one, b__law_one := b__law_one,
    m__law_one := PySem.W.mg_of X G a__law_one,
    F_law := F_law, b_law := b_law,
    m_law := PySem.W.mg_of X G a_law,
    m_Machine := PySem.W.mg_of X G aC_Machine, cl_Machine := ⟨pg_Machine, hd_Machine, po_Machine, sa_Machine⟩,
    mk_Machine := ⟨mk_Machine, a_Machine_init, i_Machine_init, kc_Machine⟩,
    na_Machine_table := n_Machine_table }
  exact ⟨_, fun s v => .of_eq rfl, fun base _ _ => ok_law T⟩
theorem walk {l : PySem.W.OpenLaw} {q : Program} {loose : List Str} {XP : (Str → Option Value) → Heap → Prop} {YP : World → Heap → Prop} {d : DefRec} {K : Params → PySem.W.Frag} (hn : l.most = some 63) (hdf : d.params.defaults = [])
    (hY : ∀ (w : World) (h : Heap), YP w h → (K w.params).In h)
    (F : ∀ (w : World) (mg : Str → Option Value) (fa : Addr) (h : Heap), (K w.params).In h → h.Ns mainGlobals mg → mg d.name = some (.ref fa) → ∃ fd : FuncData, (∀ (s : Shared) (u : Value), BindsTo s fd ⟨[u], []⟩ [("_law_script", u)]) ∧ ∀ base : Heap, (K w.params).In base → base.Ns mainGlobals mg → FnOk l.prog w (K w.params) mg base (L2.CX l.prog w) 9 fa fd ["_law_script"] (spV (K w.params) [.F] [.F] (W_law cs0))) :
    PySem.W.WalkO q loose XP YP l.row.toRowW d [] (fun f vs => PySem.call f vs) :=
  L2.walk_of (n := 63) (k := 9) (x := "_law_script") (CX := fun w => L2.CX l.prog w) (sp := fun w => spV (K w.params) [.F] [.F] (W_law cs0)) hn (by decide) hdf ⟨rfl, by decide, by decide⟩ hY F (fun w H a ns hl _ hS => law_start hS (fun P hP => ⟨ns, rfl, hl, hP⟩)) fun _ _ _ _ _ z => by
    obtain ⟨_, _, _, _, _, _, _, _, _, _, _, _, z⟩ := z
    exact z
end My
open PySem PySem.W PyProof.Rows
set_option maxRecDepth 100000 in
set_option maxHeartbeats 0 in
theorem PySem.Challenge.cw_tapeproof_k50_made_least_holds : PySem.Challenge.rw_tapeproof_k50_made_least.Holds := by
  w_on; o_law; k_head; (case hw => w_witness2)
  k_fill
  refine My.walk (l := PySem.Challenge.rw_tapeproof_k50_made_least) rfl rfl (fun w h Y => PySem.W.kIn_of Y) ?F
  case F =>
    intro w mg fa h KX G hmg
    refine' My.all_mk KX G hmg ?aC_NoMachine ?aC_NoMove ?aC_NoShape ?aC_NoText ?aC_NoWidth ?aC_TapeError ?e1_NoWidth ?e2_NoWidth ?e3_NoWidth ?e4_NoWidth ?e5_NoWidth ?e6_NoWidth ?e7_NoWidth ?e8_NoWidth ?ic_NoMachine ?it_NoMachine ?is_NoMachine ?sb_NoWidth_NoMachine ?ic_NoMove ?it_NoMove ?is_NoMove ?sb_NoWidth_NoMove ?ic_NoShape ?it_NoShape ?is_NoShape ?sb_NoWidth_NoShape ?ic_NoText ?it_NoText ?is_NoText ?sb_NoWidth_NoText ?ic_NoWidth ?it_NoWidth ?is_NoWidth ?sb_NoWidth_NoWidth ?sT_NoWidth_ValueError ?r1_NoWidth ?r2_NoWidth ?r3_NoWidth ?r4_NoWidth ?ic_TapeError ?it_TapeError ?is_TapeError ?sb_NoWidth_TapeError ?xb_TapeError ?aC_Machine ?a_is_number ?l_is_number ?c_is_number ?k_is_number ?a_entry_kept ?l_entry_kept ?c_entry_kept ?k_entry_kept ?a_Machine_init ?i_Machine_init ?l_Machine_init ?c_Machine_init ?k_Machine_init ?a_contexts_behind ?l_contexts_behind ?c_contexts_behind ?k_contexts_behind ?a_entry_at ?l_entry_at ?c_entry_at ?k_entry_at ?a_grown_once ?l_grown_once ?c_grown_once ?k_grown_once ?a_wall_ofN ?l_wall_ofN ?c_wall_ofN ?k_wall_ofN ?a__law_nextR ?l__law_nextR ?c__law_nextR ?k__law_nextR ?a__law_sameE ?l__law_sameE ?c__law_sameE ?k__law_sameE ?a__law_tableR ?l__law_tableR ?c__law_tableR ?k__law_tableR ?a__law_behindN ?l__law_behindN ?c__law_behindN ?k__law_behindN ?a__law_least ?l__law_least ?c__law_least ?k__law_least ?a__law_refused ?l__law_refused ?c__law_refused ?k__law_refused ?a__law_fits ?l__law_fits ?c__law_fits ?k__law_fits ?a__law_one ?l__law_one ?c__law_one ?k__law_one ?a_law ?l_law ?c_law ?k_law ?pg_Machine ?hd_Machine ?po_Machine ?sa_Machine ?mk_Machine ?kc_Machine ?n_Machine_table ?z_ValueError ?z_all ?z_bool ?z_dict ?z_int ?z_isinstance ?z_len ?z_list ?z_min ?z_range ?z_sorted ?z_str ?z_tuple ?z_zip
    (case aC_NoMachine => k_is)
    (case aC_NoMove => k_is)
    (case aC_NoShape => k_is)
    (case aC_NoText => k_is)
    (case aC_NoWidth => k_is)
    (case aC_TapeError => k_is)
    (case e1_NoWidth => k_is)
    (case e2_NoWidth => k_is)
    (case e3_NoWidth => k_is)
    (case e4_NoWidth => k_is)
    (case e5_NoWidth => k_is)
    (case e6_NoWidth => k_is)
    (case e7_NoWidth => k_is)
    (case e8_NoWidth => k_is)
    (case ic_NoMachine => k_is)
    (case it_NoMachine => k_is)
    (case is_NoMachine => k_is)
    (case sb_NoWidth_NoMachine => k_is)
    (case ic_NoMove => k_is)
    (case it_NoMove => k_is)
    (case is_NoMove => k_is)
    (case sb_NoWidth_NoMove => k_is)
    (case ic_NoShape => k_is)
    (case it_NoShape => k_is)
    (case is_NoShape => k_is)
    (case sb_NoWidth_NoShape => k_is)
    (case ic_NoText => k_is)
    (case it_NoText => k_is)
    (case is_NoText => k_is)
    (case sb_NoWidth_NoText => k_is)
    (case ic_NoWidth => k_is)
    (case it_NoWidth => k_is)
    (case is_NoWidth => k_is)
    (case sb_NoWidth_NoWidth => k_is)
    (case sT_NoWidth_ValueError => k_is)
    (case r1_NoWidth => k_exc)
    (case r2_NoWidth => k_is)
    (case r3_NoWidth => k_is)
    (case r4_NoWidth => k_is)
    (case ic_TapeError => k_is)
    (case it_TapeError => k_is)
    (case is_TapeError => k_is)
    (case sb_NoWidth_TapeError => k_is)
    (case xb_TapeError => k_is)
    (case aC_Machine => k_is)
    (case a_is_number => k_is)
    (case l_is_number => k_is)
    (case c_is_number => k_is)
    (case k_is_number => k_is)
    (case a_entry_kept => k_is)
    (case l_entry_kept => k_is)
    (case c_entry_kept => k_is)
    (case k_entry_kept => k_is)
    (case a_Machine_init => k_is)
    (case i_Machine_init => k_is)
    (case l_Machine_init => k_is)
    (case c_Machine_init => k_is)
    (case k_Machine_init => k_is)
    (case a_contexts_behind => k_is)
    (case l_contexts_behind => k_is)
    (case c_contexts_behind => k_is)
    (case k_contexts_behind => k_is)
    (case a_entry_at => k_is)
    (case l_entry_at => k_is)
    (case c_entry_at => k_is)
    (case k_entry_at => k_is)
    (case a_grown_once => k_is)
    (case l_grown_once => k_is)
    (case c_grown_once => k_is)
    (case k_grown_once => k_is)
    (case a_wall_ofN => k_is)
    (case l_wall_ofN => k_is)
    (case c_wall_ofN => k_is)
    (case k_wall_ofN => k_is)
    (case a__law_nextR => k_is)
    (case l__law_nextR => k_is)
    (case c__law_nextR => k_is)
    (case k__law_nextR => k_is)
    (case a__law_sameE => k_is)
    (case l__law_sameE => k_is)
    (case c__law_sameE => k_is)
    (case k__law_sameE => k_is)
    (case a__law_tableR => k_is)
    (case l__law_tableR => k_is)
    (case c__law_tableR => k_is)
    (case k__law_tableR => k_is)
    (case a__law_behindN => k_is)
    (case l__law_behindN => k_is)
    (case c__law_behindN => k_is)
    (case k__law_behindN => k_is)
    (case a__law_least => k_is)
    (case l__law_least => k_is)
    (case c__law_least => k_is)
    (case k__law_least => k_is)
    (case a__law_refused => k_is)
    (case l__law_refused => k_is)
    (case c__law_refused => k_is)
    (case k__law_refused => k_is)
    (case a__law_fits => k_is)
    (case l__law_fits => k_is)
    (case c__law_fits => k_is)
    (case k__law_fits => k_is)
    (case a__law_one => k_is)
    (case l__law_one => k_is)
    (case c__law_one => k_is)
    (case k__law_one => k_is)
    (case a_law => k_is)
    (case l_law => k_is)
    (case c_law => k_is)
    (case k_law => k_is)
    (case pg_Machine => k_is)
    (case hd_Machine => k_is)
    (case po_Machine => k_is)
    (case sa_Machine => k_is)
    (case mk_Machine => k_is)
    (case kc_Machine => k_is)
    (case n_Machine_table => k_is)
    (case z_ValueError => k_is)
    (case z_all => k_is)
    (case z_bool => k_is)
    (case z_dict => k_is)
    (case z_int => k_is)
    (case z_isinstance => k_is)
    (case z_len => k_is)
    (case z_list => k_is)
    (case z_min => k_is)
    (case z_range => k_is)
    (case z_sorted => k_is)
    (case z_str => k_is)
    (case z_tuple => k_is)
    (case z_zip => k_is)
#print axioms PySem.Challenge.cw_tapeproof_k50_made_least_holds

