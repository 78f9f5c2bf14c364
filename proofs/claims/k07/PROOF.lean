import PyProof.Rows.All
import Wide.All
import OpenK.AllK
import Wide.FinOn
import HandS.ForMost
import HandS.ForExc
import HandS.Deep
import HandS.IsInst
import HandS.TupLe
import HandS.TupAny
import HandS.Style
import HandS.SortInts
import HandS.TupSets
import HandS.WideBits
import HandS.Conv
import HandS.Zip
import HandS.Star
import HandS.Ends
import HandS.EndBits
import KE.SortData
import HandS.WordsExc
import HandS.ExcOwn
import KE.GoesEnumKw
import KE.KSuper
import KE.KExcSuper
import HandS.ExcInit
import HandS.ExcField
import HandS.ExcIs
import KE.KExcIs
import HandS.Defaults
import PyProof.StrLawsTight
import PyProof.Rows.ReprOcc
import PyProof.SumWalkG
import PyProof.SeqWrite
import PySem.Challenge.RW_debtscleared_k07_whole_webs_renamed
set_option Elab.async false
set_option linter.all false
set_option maxRecDepth 100000
set_option maxHeartbeats 4000000
/-! Data over the hand layer: D is what a value holds, Rep says that a value stands for it in the abstract heap. -/
namespace DL
open PySem L2

/-- data; a list is owned (nobody else has it) or shared; cell k is the k-th list that several names may have and change -/
inductive D where
  | none
  | bool (b : Bool)
  | int (i : Int)
  | str (x : Str)
  | lst (o : Bool) (xs : List D)
  | frz (xs : List D)
  | tup (xs : List D)
  | dic (ks : List Key) (xs : List D)
  | cell (k : Nat)
  | exc (c : Str) (v : D)
  | fn (x : Str)
  | ty (n : String)

mutual
/-- nothing within is owned -/
def D.free : D → Bool
  | .lst o xs => !o && D.frees xs
  | .tup xs => D.frees xs
  | _ => true
def D.frees : List D → Bool
  | [] => true
  | d :: ds => d.free && D.frees ds
end
mutual
def D.share : D → D
  | .lst _ xs => .lst false (D.shares xs)
  | .tup xs => .tup (D.shares xs)
  | .frz xs => .frz xs
  | .none => .none
  | .bool b => .bool b
  | .int i => .int i
  | .str x => .str x
  | .dic ks xs => .dic ks xs
  | .cell k => .cell k
  | .exc c v => .exc c v
  | .fn x => .fn x
  | .ty n => .ty n
def D.shares : List D → List D
  | [] => []
  | d :: ds => d.share :: D.shares ds
end
theorem D.shares_map (ds : List D) : D.shares ds = ds.map D.share := by
  induction ds with
  | nil => rfl
  | cons d ds ih => simp [D.shares, ih]
theorem D.frees_iff (ds : List D) : D.frees ds = true ↔ ∀ d ∈ ds, d.free = true := by
  induction ds with
  | nil => simp [D.frees]
  | cons d ds ih => simp [D.frees, ih]
mutual
theorem D.share_of_free : ∀ d : D, d.free = true → d.share = d
  | .lst o xs, h => by
    simp only [D.free, Bool.and_eq_true, Bool.not_eq_true'] at h
    simp only [D.share, h.1, D.shares_of_frees xs h.2]
  | .tup xs, h => by
    simp only [D.free] at h
    simp only [D.share, D.shares_of_frees xs h]
  | .frz _, _ => rfl
  | .none, _ => rfl
  | .bool _, _ => rfl
  | .int _, _ => rfl
  | .str _, _ => rfl
  | .dic _ _, _ => rfl
  | .cell _, _ => rfl
  | .exc _ _, _ => rfl
  | .fn _, _ => rfl
  | .ty _, _ => rfl
theorem D.shares_of_frees : ∀ ds : List D, D.frees ds = true → D.shares ds = ds
  | [], _ => rfl
  | d :: ds, h => by
    simp only [D.frees, Bool.and_eq_true] at h
    simp only [D.shares, D.share_of_free d h.1, D.shares_of_frees ds h.2]
end
mutual
theorem D.free_share : ∀ d : D, d.share.free = true
  | .lst o xs => by simp only [D.share, D.free, D.frees_shares xs]; rfl
  | .tup xs => by simp only [D.share, D.free, D.frees_shares xs]
  | .frz _ => rfl
  | .none => rfl
  | .bool _ => rfl
  | .int _ => rfl
  | .str _ => rfl
  | .dic _ _ => rfl
  | .cell _ => rfl
  | .exc _ _ => rfl
  | .fn _ => rfl
  | .ty _ => rfl
theorem D.frees_shares : ∀ ds : List D, D.frees (D.shares ds) = true
  | [] => rfl
  | d :: ds => by simp only [D.shares, D.frees, D.free_share d, D.frees_shares ds]; rfl
end
theorem D.share_share (d : D) : d.share.share = d.share := D.share_of_free _ (D.free_share d)

/-- a list of the written part -/
def KL (K : PySem.W.Frag) (a : Addr) (xs : List V) : Prop :=
  ∃ (o : Obj) (its : Array Value) (n : Nat), K.lookup a = some o ∧ o.cls = .type "list" ∧ o.dict = none ∧ o.data = .seq its n ∧ its.size ≤ sizeLine ∧ Vals xs its.toList
/-- an exception's object, held as a value -/
def excHO (C : Addr) (d a : Addr) : HO := .ext fun h => ∃ oe vs, h.get? a = some oe ∧ oe.cls = .ref C ∧ oe.dict = some d ∧ oe.data = .fields vs

section
variable (K : PySem.W.Frag) (mg : Str → Option Value) (cs B : List Addr) (H : Hp)
mutual
/-- v stands for d; f: the lists that it owns -/
inductive Rep : V → D → List Addr → Prop
  | none : Rep .non .none []
  | bool (b : Bool) : Rep (.bl b) (.bool b) []
  | int (i : Int) : Rep (.int i) (.int i) []
  | str (x : Str) : Rep (.str x) (.str x) []
  | frz {a : Addr} {xs : List V} {ds : List D} : (KL K a xs ∨ ∃ o, H a = some (.frz o (.lst xs))) → Reps xs ds [] → Rep (.ref a) (.frz ds) []
  | lstS {a : Addr} {xs : List V} {ds : List D} : H a = some (.lst xs) → a ∉ B → Reps xs ds [] → Rep (.ref a) (.lst false ds) []
  | lstO {a : Addr} {xs : List V} {ds : List D} {f : List Addr} : H a = some (.lst xs) → Reps xs ds f → Rep (.ref a) (.lst true ds) (a :: f)
  | tup {a : Addr} {xs : List V} {ds : List D} {f : List Addr} : SqT K H a xs → Reps xs ds f → Rep (.ref a) (.tup ds) f
  | dic {a : Addr} {kvs : List (Key × V)} {ds : List D} : H a = some (.dK kvs) → Reps (kvs.map (·.2)) ds [] → Rep (.ref a) (.dic (kvs.map (·.1)) ds) []
  | cell {a : Addr} {k : Nat} : cs[k]? = some a → Rep (.ref a) (.cell k) []
  | exc {a C d : Addr} {c : Str} {v : V} {dv : D} : mg c = some (.ref C) → H a = some (excHO C d a) → H d = some (.xd [(("value" : Str), v)]) → Rep v dv [] → Rep (.ref a) (.exc c dv) []
  | fn {a : Addr} {x : Str} : mg x = some (.ref a) → Rep (.ref a) (.fn x) []
  | ty (n : String) : Rep (.ty n) (.ty n) []
inductive Reps : List V → List D → List Addr → Prop
  | nil : Reps [] [] []
  | cons {v : V} {d : D} {f : List Addr} {vs : List V} {ds : List D} {g : List Addr} : Rep v d f → Reps vs ds g → Reps (v :: vs) (d :: ds) (f ++ g)
end
end

section
variable {K : PySem.W.Frag} {mg : Str → Option Value} {cs cs' B B' : List Addr} {H H' : Hp}

/-- what a step may do to the heap: W is written -/
structure Stp (H H' : Hp) (W B : List Addr) : Prop where
  keep : ∀ a o, H a = some o → a ∉ W → H' a = some o
  wr : ∀ a ∈ W, a ∈ B ∧ ∃ xs, H a = some (.lst xs)
theorem Stp.refl (H : Hp) (B : List Addr) : Stp H H [] B := ⟨fun _ _ e _ => e, fun _ h => nomatch h⟩
theorem Stp.alloc {H : Hp} {p : Addr} {o : HO} (B : List Addr) (hp : H p = none) : Stp H (upd H p o) [] B :=
  ⟨fun a u e _ => by rw [upd_ne (ne_of_none e hp)]; exact e, fun _ h => nomatch h⟩
theorem Stp.write {H : Hp} {p : Addr} {xs : List V} {o : HO} {B : List Addr} (hp : H p = some (.lst xs)) (hb : p ∈ B) : Stp H (upd H p o) [p] B :=
  ⟨fun a u e h => by rw [upd_ne (by simpa using h)]; exact e, fun a h => by
    have e : a = p := by simpa using h
    subst e; exact ⟨hb, xs, hp⟩⟩
theorem Stp.notW {W : List Addr} (s : Stp H H' W B) {a : Addr} {o : HO} (e : H a = some o) (n : ∀ xs, o ≠ .lst xs) : a ∉ W := fun hm => by
  obtain ⟨_, xs, e'⟩ := s.wr a hm
  rw [e] at e'; cases e'; exact n xs rfl
mutual
/-- the one lemma by which everything is carried on -/
theorem Rep.on {W : List Addr} (s : Stp H H' W B) (hc : ∀ (k : Nat) (a : Addr), cs[k]? = some a → cs'[k]? = some a) (hB : ∀ a ∈ B', a ∈ B ∨ H a = none) : ∀ {v : V} {d : D} {f : List Addr}, Rep K mg cs B H v d f → (∀ a ∈ f, a ∉ W) → Rep K mg cs' B' H' v d f
  | _, _, _, .none, _ => .none
  | _, _, _, .bool b, _ => .bool b
  | _, _, _, .int i, _ => .int i
  | _, _, _, .str x, _ => .str x
  | _, _, _, .frz h r, hf => .frz (h.imp_right fun ⟨o, e⟩ => ⟨o, s.keep _ _ e (s.notW e fun xs z => nomatch z)⟩) (Reps.on s hc hB r (fun _ h => nomatch h))
  | _, _, _, .lstS (a := a) h n r, hf => by
    have hW : a ∉ W := fun hm => n (s.wr a hm).1
    refine .lstS (s.keep _ _ h hW) (fun hm => ?_) (Reps.on s hc hB r (fun _ h => nomatch h))
    rcases hB a hm with z | z
    · exact n z
    · rw [h] at z; cases z
  | _, _, _, .lstO (a := a) h r, hf => .lstO (s.keep _ _ h (hf a (by simp))) (Reps.on s hc hB r fun b hb => hf b (List.mem_cons_of_mem _ hb))
  | _, _, _, .tup h r, hf => by
    refine .tup ?_ (Reps.on s hc hB r hf)
    rcases h with (h | ⟨o, h⟩) | h
    · exact .inl (.inl (s.keep _ _ h (s.notW h fun xs z => nomatch z)))
    · exact .inl (.inr ⟨o, s.keep _ _ h (s.notW h fun xs z => nomatch z)⟩)
    · exact .inr h
  | _, _, _, .dic h r, hf => .dic (s.keep _ _ h (s.notW h fun xs z => nomatch z)) (Reps.on s hc hB r (fun _ h => nomatch h))
  | _, _, _, .cell h, _ => .cell (hc _ _ h)
  | _, _, _, .exc hm h1 h2 r, _ => .exc hm (s.keep _ _ h1 (s.notW h1 fun xs z => by unfold excHO at z; cases z)) (s.keep _ _ h2 (s.notW h2 fun xs z => nomatch z)) (Rep.on s hc hB r (fun _ h => nomatch h))
  | _, _, _, .fn h, _ => .fn h
  | _, _, _, .ty n, _ => .ty n
theorem Reps.on {W : List Addr} (s : Stp H H' W B) (hc : ∀ (k : Nat) (a : Addr), cs[k]? = some a → cs'[k]? = some a) (hB : ∀ a ∈ B', a ∈ B ∨ H a = none) : ∀ {vs : List V} {ds : List D} {f : List Addr}, Reps K mg cs B H vs ds f → (∀ a ∈ f, a ∉ W) → Reps K mg cs' B' H' vs ds f
  | _, _, _, .nil, _ => .nil
  | _, _, _, .cons r t, hf => .cons (Rep.on s hc hB r fun a h => hf a (List.mem_append_left _ h)) (Reps.on s hc hB t fun a h => hf a (List.mem_append_right _ h))
end
mutual
theorem Rep.lists : ∀ {v : V} {d : D} {f : List Addr}, Rep K mg cs B H v d f → ∀ a ∈ f, ∃ xs, H a = some (.lst xs)
  | _, _, _, .none, b, hb => nomatch hb
  | _, _, _, .bool _, b, hb => nomatch hb
  | _, _, _, .int _, b, hb => nomatch hb
  | _, _, _, .str _, b, hb => nomatch hb
  | _, _, _, .frz _ _, b, hb => nomatch hb
  | _, _, _, .lstS _ _ _, b, hb => nomatch hb
  | _, _, _, .lstO h r, b, hb => (List.mem_cons.mp hb).elim (fun e => ⟨_, e ▸ h⟩) fun hb => Reps.lists r b hb
  | _, _, _, .tup h r, b, hb => Reps.lists r b hb
  | _, _, _, .dic _ _, b, hb => nomatch hb
  | _, _, _, .cell _, b, hb => nomatch hb
  | _, _, _, .exc _ _ _ _, b, hb => nomatch hb
  | _, _, _, .fn _, b, hb => nomatch hb
  | _, _, _, .ty _, b, hb => nomatch hb
theorem Reps.lists : ∀ {vs : List V} {ds : List D} {f : List Addr}, Reps K mg cs B H vs ds f → ∀ a ∈ f, ∃ xs, H a = some (.lst xs)
  | _, _, _, .nil, b, hb => nomatch hb
  | _, _, _, .cons r t, b, hb => (List.mem_append.mp hb).elim (fun hb => Rep.lists r b hb) fun hb => Reps.lists t b hb
end
mutual
theorem Rep.free : ∀ {v : V} {d : D} {f : List Addr}, Rep K mg cs B H v d f → d.free = true → f = []
  | _, _, _, .none, _ => rfl
  | _, _, _, .bool _, _ => rfl
  | _, _, _, .int _, _ => rfl
  | _, _, _, .str _, _ => rfl
  | _, _, _, .frz _ _, _ => rfl
  | _, _, _, .lstS _ _ _, _ => rfl
  | _, _, _, .lstO h r, e => by simp [D.free] at e
  | _, _, _, .tup h r, e => Reps.free r (by simpa [D.free] using e)
  | _, _, _, .dic _ _, _ => rfl
  | _, _, _, .cell _, _ => rfl
  | _, _, _, .exc _ _ _ _, _ => rfl
  | _, _, _, .fn _, _ => rfl
  | _, _, _, .ty _, _ => rfl
theorem Reps.free : ∀ {vs : List V} {ds : List D} {f : List Addr}, Reps K mg cs B H vs ds f → D.frees ds = true → f = []
  | _, _, _, .nil, _ => rfl
  | _, _, _, .cons r t, e => by
    simp only [D.frees, Bool.and_eq_true] at e
    rw [Rep.free r e.1, Reps.free t e.2]; rfl
end
mutual
theorem Rep.isFree' : ∀ {v : V} {d : D} {f : List Addr}, Rep K mg cs B H v d f → f = [] → d.free = true
  | _, _, _, .none, _ => rfl
  | _, _, _, .bool _, _ => rfl
  | _, _, _, .int _, _ => rfl
  | _, _, _, .str _, _ => rfl
  | _, _, _, .frz _ _, _ => rfl
  | _, _, _, .lstS _ _ r, _ => by simp only [D.free, Reps.isFree' r rfl]; rfl
  | _, _, _, .lstO _ _, e => nomatch e
  | _, _, _, .tup h r, e => by simp only [D.free, Reps.isFree' r e]
  | _, _, _, .dic _ _, _ => rfl
  | _, _, _, .cell _, _ => rfl
  | _, _, _, .exc _ _ _ _, _ => rfl
  | _, _, _, .fn _, _ => rfl
  | _, _, _, .ty _, _ => rfl
theorem Reps.isFree' : ∀ {vs : List V} {ds : List D} {f : List Addr}, Reps K mg cs B H vs ds f → f = [] → D.frees ds = true
  | _, _, _, .nil, _ => rfl
  | _, _, _, .cons r t, e => by
    have e' := List.append_eq_nil_iff.mp e
    simp only [D.frees, Rep.isFree' r e'.1, Reps.isFree' t e'.2]; rfl
end
theorem Rep.isFree {v : V} {d : D} (h : Rep K mg cs B H v d []) : d.free = true := h.isFree' rfl
theorem Reps.isFree {vs : List V} {ds : List D} (h : Reps K mg cs B H vs ds []) : D.frees ds = true := h.isFree' rfl
mutual
/-- nobody's own any more -/
theorem Rep.share (hB : ∀ a ∈ B', a ∈ B) : ∀ {v : V} {d : D} {f : List Addr}, Rep K mg cs B H v d f → (∀ a ∈ f, a ∉ B') → Rep K mg cs B' H v d.share []
  | _, _, _, .none, _ => .none
  | _, _, _, .bool b, _ => .bool b
  | _, _, _, .int i, _ => .int i
  | _, _, _, .str x, _ => .str x
  | _, _, _, .frz h r, hf => .frz h (Reps.on (W := []) (Stp.refl H B) (fun _ _ e => e) (fun a h => .inl (hB a h)) r fun _ h => nomatch h)
  | _, _, _, .lstS h n r, hf => .lstS h (fun z => n (hB _ z)) (Reps.share hB r fun _ h => nomatch h)
  | _, _, _, .lstO h r, hf => .lstS h (hf _ (by simp)) (Reps.share hB r fun b hb => hf b (List.mem_cons_of_mem _ hb))
  | _, _, _, .tup h r, hf => .tup h (Reps.share hB r hf)
  | _, _, _, .dic h r, hf => .dic h (Reps.on (W := []) (Stp.refl H B) (fun _ _ e => e) (fun a h => .inl (hB a h)) r fun _ h => nomatch h)
  | _, _, _, .cell h, _ => .cell h
  | _, _, _, .exc hm h1 h2 r, _ => .exc hm h1 h2 (Rep.on (W := []) (Stp.refl H B) (fun _ _ e => e) (fun a h => .inl (hB a h)) r fun _ h => nomatch h)
  | _, _, _, .fn h, _ => .fn h
  | _, _, _, .ty n, _ => .ty n
theorem Reps.share (hB : ∀ a ∈ B', a ∈ B) : ∀ {vs : List V} {ds : List D} {f : List Addr}, Reps K mg cs B H vs ds f → (∀ a ∈ f, a ∉ B') → Reps K mg cs B' H vs (D.shares ds) []
  | _, _, _, .nil, _ => .nil
  | _, _, _, .cons r t, hf => .cons (f := []) (g := []) (Rep.share hB r fun a h => hf a (List.mem_append_left _ h)) (Reps.share hB t fun a h => hf a (List.mem_append_right _ h))
end
theorem Reps.length {vs : List V} {ds : List D} {f : List Addr} (h : Reps K mg cs B H vs ds f) : vs.length = ds.length := by
  induction vs generalizing ds f with
  | nil => cases h; rfl
  | cons v vs ih => cases h with | cons r t => simp [ih t]
theorem Reps.get {vs : List V} {ds : List D} (h : Reps K mg cs B H vs ds []) {i : Nat} {d : D} (e : ds[i]? = some d) : ∃ v, vs[i]? = some v ∧ Rep K mg cs B H v d [] := by
  induction vs generalizing ds i with
  | nil => cases h; simp at e
  | cons v vs ih =>
    generalize hf : ([] : List Addr) = f at h
    cases h with
    | cons r t =>
      obtain ⟨e1, e2⟩ := List.append_eq_nil_iff.mp hf.symm
      subst e1 e2
      cases i with
      | zero =>
        simp at e; subst e
        exact ⟨v, by simp, r⟩
      | succ i => simpa using ih t (by simpa using e)
theorem Reps.append {vs ws : List V} {ds es : List D} {f g : List Addr} (h : Reps K mg cs B H vs ds f) (k : Reps K mg cs B H ws es g) : Reps K mg cs B H (vs ++ ws) (ds ++ es) (f ++ g) := by
  induction vs generalizing ds f with
  | nil => cases h; exact k
  | cons v vs ih =>
    cases h with
    | cons r t =>
      rw [List.append_assoc]
      exact .cons r (ih t)
theorem Reps.split {ds es : List D} : ∀ {vs : List V} {f : List Addr}, Reps K mg cs B H vs (ds ++ es) f → ∃ v1 v2 f1 f2, vs = v1 ++ v2 ∧ f = f1 ++ f2 ∧ Reps K mg cs B H v1 ds f1 ∧ Reps K mg cs B H v2 es f2 := by
  induction ds with
  | nil => intro vs f h; exact ⟨[], vs, [], f, rfl, rfl, .nil, h⟩
  | cons d ds ih =>
    intro vs f h
    cases h with
    | cons r t =>
      obtain ⟨v1, v2, f1, f2, rfl, rfl, h1, h2⟩ := ih t
      exact ⟨_, v2, _, f2, rfl, by rw [List.append_assoc], .cons r h1, h2⟩
theorem Reps.one {v : V} {d : D} {f : List Addr} (h : Rep K mg cs B H v d f) : Reps K mg cs B H [v] [d] f := by
  have := Reps.cons h (Reps.nil (K := K) (mg := mg) (cs := cs) (B := B) (H := H))
  simpa using this
theorem Reps.one_inv {v : V} {d : D} {f : List Addr} (h : Reps K mg cs B H [v] [d] f) : Rep K mg cs B H v d f := by
  cases h with
  | cons r t => cases t; simpa using r
/-- a list that is read -/
theorem Rep.sqL {v : V} {o : Bool} {ds : List D} {f : List Addr} (h : Rep K mg cs B H v (.lst o ds) f) : ∃ a xs g, v = .ref a ∧ SqL K H a xs ∧ Reps K mg cs B H xs ds g ∧ (g = f ∨ f = a :: g) := by
  cases h with
  | lstS h n r => exact ⟨_, _, [], rfl, .inl (.inl h), r, .inl rfl⟩
  | lstO h r => exact ⟨_, _, _, rfl, .inl (.inl h), r, .inr rfl⟩
theorem Rep.frzL {v : V} {ds : List D} {f : List Addr} (h : Rep K mg cs B H v (.frz ds) f) : ∃ a xs, v = .ref a ∧ SqL K H a xs ∧ Reps K mg cs B H xs ds [] ∧ f = [] := by
  cases h with
  | frz h r =>
    rcases h with h | ⟨o, h⟩
    · exact ⟨_, _, rfl, .inr h, r, rfl⟩
    · exact ⟨_, _, rfl, .inl (.inr ⟨o, h⟩), r, rfl⟩
end
end DL
namespace DL
open PySem L2

/-- an operand: a datum in hand, or what stands in slot i (looked at when it is used) -/
inductive It where
  | val (d : D)
  | pk (i : Nat)
abbrev Env := List (Option D)
abbrev Cells := List (List D)
abbrev Tmp := List (V × It)
/-- the frame of a def's run: the program's facts, what is not to be touched, the entry -/
structure Gm where
  K : PySem.W.Frag
  mg : Str → Option Value
  G : List Addr
  H0 : Hp
  F0 : List Addr
  cs0 : List Addr

section
variable (K : PySem.W.Frag) (mg : Str → Option Value) (cs B : List Addr) (H : Hp)
inductive Slots : St → Env → List Addr → Prop
  | nil : Slots [] [] []
  | skip {x : Option V} {σ : St} {ρ : Env} {g : List Addr} : Slots σ ρ g → Slots (x :: σ) (none :: ρ) g
  | cons {v : V} {d : D} {f : List Addr} {σ : St} {ρ : Env} {g : List Addr} : Rep K mg cs B H v d f → Slots σ ρ g → Slots (some v :: σ) (some d :: ρ) (f ++ g)
inductive Temps (σ : St) : Tmp → List Addr → Prop
  | nil : Temps σ [] []
  | val {v : V} {d : D} {f : List Addr} {T : Tmp} {g : List Addr} : Rep K mg cs B H v d f → Temps σ T g → Temps σ ((v, .val d) :: T) (f ++ g)
  | pk {v : V} {i : Nat} {T : Tmp} {g : List Addr} : σ[i]? = some (some v) → Temps σ T g → Temps σ ((v, .pk i) :: T) g
inductive CellsOk : List Addr → Cells → Prop
  | nil : CellsOk [] []
  | cons {a : Addr} {xs : List V} {ds : List D} {as : List Addr} {μ : Cells} : H a = some (.lst xs) → Reps K mg cs B H xs ds [] → CellsOk as μ → CellsOk (a :: as) (ds :: μ)
end

section
variable {K : PySem.W.Frag} {mg : Str → Option Value} {cs cs' B B' : List Addr} {H H' : Hp}
theorem Slots.len {σ : St} {ρ : Env} {F : List Addr} (h : Slots K mg cs B H σ ρ F) : σ.length = ρ.length := by
  induction h with
  | nil => rfl
  | skip _ ih => simp [ih]
  | cons _ _ ih => simp [ih]
theorem Slots.on {W : List Addr} (s : Stp H H' W B) (hc : ∀ (k : Nat) (a : Addr), cs[k]? = some a → cs'[k]? = some a) (hB : ∀ a ∈ B', a ∈ B ∨ H a = none) {σ : St} {ρ : Env} {F : List Addr}
    (h : Slots K mg cs B H σ ρ F) (hf : ∀ a ∈ F, a ∉ W) : Slots K mg cs' B' H' σ ρ F := by
  induction h with
  | nil => exact .nil
  | skip _ ih => exact .skip (ih hf)
  | cons r _ ih => exact .cons (r.on s hc hB fun a h => hf a (List.mem_append_left _ h)) (ih fun a h => hf a (List.mem_append_right _ h))
theorem Temps.on {W : List Addr} (s : Stp H H' W B) (hc : ∀ (k : Nat) (a : Addr), cs[k]? = some a → cs'[k]? = some a) (hB : ∀ a ∈ B', a ∈ B ∨ H a = none) {σ : St} {T : Tmp} {F : List Addr}
    (h : Temps K mg cs B H σ T F) (hf : ∀ a ∈ F, a ∉ W) : Temps K mg cs' B' H' σ T F := by
  induction h with
  | nil => exact .nil
  | pk e _ ih => exact .pk e (ih hf)
  | val r _ ih => exact .val (r.on s hc hB fun a h => hf a (List.mem_append_left _ h)) (ih fun a h => hf a (List.mem_append_right _ h))
theorem CellsOk.on {W : List Addr} (s : Stp H H' W B) (hc : ∀ (k : Nat) (a : Addr), cs[k]? = some a → cs'[k]? = some a) (hB : ∀ a ∈ B', a ∈ B ∨ H a = none) {as : List Addr} {μ : Cells}
    (h : CellsOk K mg cs B H as μ) (hf : ∀ a ∈ as, a ∉ W) : CellsOk K mg cs' B' H' as μ := by
  induction h with
  | nil => exact .nil
  | cons e r _ ih => exact .cons (s.keep _ _ e (hf _ (by simp))) (r.on s hc hB fun _ h => nomatch h) (ih fun a h => hf a (List.mem_cons_of_mem _ h))
theorem CellsOk.len {as : List Addr} {μ : Cells} (h : CellsOk K mg cs B H as μ) : as.length = μ.length := by
  induction h with
  | nil => rfl
  | cons _ _ _ ih => simp [ih]
theorem CellsOk.get {as : List Addr} {μ : Cells} (h : CellsOk K mg cs B H as μ) {k : Nat} {ds : List D} (e : μ[k]? = some ds) : ∃ a xs, as[k]? = some a ∧ H a = some (.lst xs) ∧ Reps K mg cs B H xs ds [] := by
  induction h generalizing k with
  | nil => simp at e
  | cons h r _ ih =>
    cases k with
    | zero => simp at e; subst e; exact ⟨_, _, by simp, h, r⟩
    | succ k => simpa using ih (by simpa using e)
/-- one cell written -/
theorem CellsOk.set {as : List Addr} {μ : Cells} (h : CellsOk K mg cs B H as μ) {k : Nat} {a : Addr} {xs : List V} {ds : List D} (e : as[k]? = some a) (nd : as.Nodup)
    (s : Stp H (upd H a (.lst xs)) [a] B) (r : Reps K mg cs B (upd H a (.lst xs)) xs ds []) : CellsOk K mg cs B (upd H a (.lst xs)) as (μ.set k ds) := by
  induction h generalizing k with
  | nil => simp at e
  | cons h' r' t ih =>
    rw [List.nodup_cons] at nd
    cases k with
    | zero =>
      simp at e; subst e
      exact .cons upd_same r (t.on s (fun _ _ e => e) (fun _ h => .inl h) fun b hb hw => nd.1 (by rw [← List.mem_singleton.mp hw]; exact hb))
    | succ k =>
      rw [List.getElem?_cons_succ] at e
      rw [List.set_cons_succ]
      refine .cons ?_ (r'.on s (fun _ _ e => e) (fun _ h => .inl h) fun _ h => nomatch h) (ih e nd.2)
      rw [upd_ne (fun z => nd.1 (by rw [z]; exact List.mem_of_getElem? e))]
      exact h'
/-- a slot's datum taken out -/
theorem Slots.out {σ : St} {ρ : Env} {F : List Addr} (h : Slots K mg cs B H σ ρ F) {i : Nat} {d : D} (e : ρ[i]? = some (some d)) :
    ∃ v f g, σ[i]? = some (some v) ∧ Rep K mg cs B H v d f ∧ Slots K mg cs B H σ (ρ.set i none) g ∧ ∀ a, F.count a = f.count a + g.count a := by
  induction h generalizing i with
  | nil => simp at e
  | skip h' ih =>
    cases i with
    | zero => simp at e
    | succ i =>
      obtain ⟨v, f, g, h1, h2, h3, h4⟩ := ih (by simpa using e)
      exact ⟨v, f, g, by simpa using h1, h2, by simpa using Slots.skip h3, h4⟩
  | cons r h' ih =>
    cases i with
    | zero =>
      simp at e; subst e
      exact ⟨_, _, _, by simp, r, by simpa using Slots.skip h', fun a => by rw [List.count_append]⟩
    | succ i =>
      obtain ⟨v, f, g, h1, h2, h3, h4⟩ := ih (by simpa using e)
      refine ⟨v, f, _, by simpa using h1, h2, by simpa using Slots.cons r h3, fun a => ?_⟩
      have := h4 a
      simp only [List.count_append]; omega
/-- .. put in -/
theorem Slots.put {σ : St} {ρ : Env} {g : List Addr} (h : Slots K mg cs B H σ ρ g) {i : Nat} (e : ρ[i]? = some none) {v : V} {d : D} {f : List Addr} (hv : σ[i]? = some (some v)) (r : Rep K mg cs B H v d f) :
    ∃ F, Slots K mg cs B H σ (ρ.set i (some d)) F ∧ ∀ a, F.count a = f.count a + g.count a := by
  induction h generalizing i with
  | nil => simp at e
  | skip h' ih =>
    cases i with
    | zero =>
      simp at hv; subst hv
      exact ⟨_, by simpa using Slots.cons r h', fun a => by rw [List.count_append]⟩
    | succ i =>
      obtain ⟨F, h1, h2⟩ := ih (by simpa using e) (by simpa using hv)
      exact ⟨F, by simpa using Slots.skip h1, h2⟩
  | cons r' h' ih =>
    cases i with
    | zero => simp at e
    | succ i =>
      obtain ⟨F, h1, h2⟩ := ih (by simpa using e) (by simpa using hv)
      refine ⟨_, by simpa using Slots.cons r' h1, fun a => ?_⟩
      have := h2 a
      simp only [List.count_append]; omega
/-- an empty slot's value does not matter -/
theorem Slots.any {σ : St} {ρ : Env} {g : List Addr} (h : Slots K mg cs B H σ ρ g) {i : Nat} (e : ρ[i]? = some none) (x : Option V) : Slots K mg cs B H (σ.set i x) ρ g := by
  induction h generalizing i with
  | nil => simp at e
  | skip h' ih =>
    cases i with
    | zero => simpa using Slots.skip h'
    | succ i => simpa using Slots.skip (ih (by simpa using e))
  | cons r' h' ih =>
    cases i with
    | zero => simp at e
    | succ i => simpa using Slots.cons r' (ih (by simpa using e))
/-- a slot is forgotten -/
theorem Slots.drop {σ : St} {ρ : Env} {F : List Addr} (h : Slots K mg cs B H σ ρ F) (i : Nat) : ∃ g, Slots K mg cs B H σ (ρ.set i none) g ∧ ∀ a, g.count a ≤ F.count a := by
  cases e : ρ[i]? with
  | none =>
    refine ⟨F, ?_, fun _ => Nat.le_refl _⟩
    rw [List.set_eq_of_length_le (by simpa using e)]; exact h
  | some o =>
    cases o with
    | none =>
      refine ⟨F, ?_, fun _ => Nat.le_refl _⟩
      have : ρ.set i none = ρ := by
        apply List.ext_getElem?
        intro j
        by_cases hj : i = j
        · subst hj
          have hl : i < ρ.length := by
            obtain ⟨hl, _⟩ := List.getElem?_eq_some_iff.mp e; exact hl
          rw [List.getElem?_set_self hl, e]
        · rw [List.getElem?_set_ne hj]
      rw [this]; exact h
    | some d =>
      obtain ⟨v, f, g, _, _, h3, h4⟩ := h.out e
      exact ⟨g, h3, fun a => by have := h4 a; omega⟩
theorem Slots.lists {σ : St} {ρ : Env} {F : List Addr} (h : Slots K mg cs B H σ ρ F) : ∀ a ∈ F, ∃ xs, H a = some (.lst xs) := by
  induction h with
  | nil => intro a h; nomatch h
  | skip _ ih => exact ih
  | cons r _ ih => intro a h; exact (List.mem_append.mp h).elim (r.lists a) (ih a)
theorem Temps.lists {σ : St} {T : Tmp} {F : List Addr} (h : Temps K mg cs B H σ T F) : ∀ a ∈ F, ∃ xs, H a = some (.lst xs) := by
  induction h with
  | nil => intro a h; nomatch h
  | pk _ _ ih => exact ih
  | val r _ ih => intro a h; exact (List.mem_append.mp h).elim (r.lists a) (ih a)
theorem CellsOk.lists {as : List Addr} {μ : Cells} (h : CellsOk K mg cs B H as μ) : ∀ a ∈ as, ∃ xs, H a = some (.lst xs) := by
  induction h with
  | nil => intro a h; nomatch h
  | cons e _ _ ih =>
    intro a h
    rcases List.mem_cons.mp h with rfl | h
    · exact ⟨_, e⟩
    · exact ih a h
theorem Temps.app {σ : St} {T U : Tmp} {f g : List Addr} (h : Temps K mg cs B H σ T f) (k : Temps K mg cs B H σ U g) : Temps K mg cs B H σ (T ++ U) (f ++ g) := by
  induction h with
  | nil => exact k
  | pk e _ ih => exact .pk e ih
  | val r _ ih => rw [List.append_assoc]; exact .val r ih
end

/-- temps of data -/
abbrev vals (vs : List V) (ds : List D) : Tmp := List.zip vs (ds.map It.val)
section
variable {K : PySem.W.Frag} {mg : Str → Option Value} {cs cs' B B' : List Addr} {H H' : Hp}
theorem Temps.of_reps {σ : St} {vs : List V} {ds : List D} {f : List Addr} (h : Reps K mg cs B H vs ds f) {T : Tmp} {g : List Addr} (t : Temps K mg cs B H σ T g) : Temps K mg cs B H σ (vals vs ds ++ T) (f ++ g) := by
  induction vs generalizing ds f with
  | nil => cases h; exact t
  | cons v vs ih =>
    cases h with
    | cons r h' =>
      rw [List.append_assoc]
      exact .val r (ih h')
theorem Temps.to_reps {σ : St} {ds : List D} : ∀ {vs : List V}, vs.length = ds.length → ∀ {T : Tmp} {F : List Addr}, Temps K mg cs B H σ (vals vs ds ++ T) F → ∃ f g, F = f ++ g ∧ Reps K mg cs B H vs ds f ∧ Temps K mg cs B H σ T g := by
  induction ds with
  | nil =>
    intro vs hl T F h
    have : vs = [] := by simpa using hl
    subst this
    exact ⟨[], F, rfl, .nil, h⟩
  | cons d ds ih =>
    intro vs hl T F h
    cases vs with
    | nil => simp at hl
    | cons v vs =>
      cases h with
      | val r h' =>
        obtain ⟨f, g, rfl, h1, h2⟩ := ih (by simpa using hl) h'
        exact ⟨_, g, by rw [List.append_assoc], .cons r h1, h2⟩
end

/-- the state of a def's run -/
structure Good (Γ : Gm) (cs : List Addr) (H : Hp) (σ : St) (ρ : Env) (μ : Cells) (T : Tmp) (Fs Ft : List Addr) : Prop where
  sl : Slots Γ.K Γ.mg cs (Fs ++ Ft ++ cs ++ Γ.G) H σ ρ Fs
  tm : Temps Γ.K Γ.mg cs (Fs ++ Ft ++ cs ++ Γ.G) H σ T Ft
  ce : CellsOk Γ.K Γ.mg cs (Fs ++ Ft ++ cs ++ Γ.G) H cs μ
  nd : ∀ a, Fs.count a + Ft.count a + cs.count a + Γ.G.count a ≤ 1
  kp : ∀ a o, Γ.H0 a = some o → a ∉ Γ.F0 → a ∉ Γ.cs0 → H a = some o
  fr : ∀ a, a ∈ Fs ∨ a ∈ Ft → a ∈ Γ.F0 ∨ Γ.H0 a = none
  c1 : ∀ (k : Nat) (a : Addr), Γ.cs0[k]? = some a → cs[k]? = some a
  c2 : ∀ a ∈ cs, a ∈ Γ.cs0 ∨ a ∈ Γ.F0 ∨ Γ.H0 a = none
  g0 : ∀ a ∈ Γ.G, Γ.H0 a ≠ none ∧ a ∉ Γ.F0 ∧ a ∉ Γ.cs0

theorem memc {l : List Addr} {a : Addr} : a ∈ l ↔ 0 < l.count a := List.count_pos_iff.symm
section
variable {Γ : Gm} {cs cs' : List Addr} {H H' : Hp} {σ σ' : St} {ρ ρ' : Env} {μ μ' : Cells} {T T' : Tmp} {Fs Ft Fs' Ft' B W : List Addr}
theorem Good.fresh (g : Good Γ cs H σ ρ μ T Fs Ft) {p : Addr} (hp : H p = none) : p ∉ Fs ∧ p ∉ Ft ∧ p ∉ cs ∧ p ∉ Γ.G ∧ (p ∈ Γ.F0 ∨ p ∈ Γ.cs0 ∨ Γ.H0 p = none) := by
  have z : p ∈ Γ.F0 ∨ p ∈ Γ.cs0 ∨ Γ.H0 p = none := by
    cases e : Γ.H0 p with
    | none => exact .inr (.inr rfl)
    | some o =>
      by_cases h1 : p ∈ Γ.F0
      · exact .inl h1
      · by_cases h2 : p ∈ Γ.cs0
        · exact .inr (.inl h2)
        · have := g.kp p o e h1 h2
          rw [hp] at this; cases this
  refine ⟨fun h => ?_, fun h => ?_, fun h => ?_, fun h => ?_, z⟩
  · obtain ⟨xs, e⟩ := g.sl.lists p h; rw [hp] at e; cases e
  · obtain ⟨xs, e⟩ := g.tm.lists p h; rw [hp] at e; cases e
  · obtain ⟨xs, e⟩ := g.ce.lists p h; rw [hp] at e; cases e
  · obtain ⟨h1, h2, h3⟩ := g.g0 p h
    exact z.elim h2 fun z => z.elim h3 h1
/-- the parts, carried over a step, make a state again -/
theorem Good.mkS (s : Stp H H' W B) (hc : ∀ (k : Nat) (a : Addr), cs[k]? = some a → cs'[k]? = some a)
    (sl : Slots Γ.K Γ.mg cs B H σ ρ Fs) (tm : Temps Γ.K Γ.mg cs B H σ T Ft) (ce : CellsOk Γ.K Γ.mg cs' (Fs ++ Ft ++ cs' ++ Γ.G) H' cs' μ)
    (hF : ∀ a, a ∈ Fs ∨ a ∈ Ft → a ∉ W) (hB : ∀ a, a ∈ Fs ∨ a ∈ Ft ∨ a ∈ cs' ∨ a ∈ Γ.G → a ∈ B ∨ H a = none)
    (nd : ∀ a, Fs.count a + Ft.count a + cs'.count a + Γ.G.count a ≤ 1)
    (kp : ∀ a o, Γ.H0 a = some o → a ∉ Γ.F0 → a ∉ Γ.cs0 → H' a = some o) (fr : ∀ a, a ∈ Fs ∨ a ∈ Ft → a ∈ Γ.F0 ∨ Γ.H0 a = none)
    (c1 : ∀ (k : Nat) (a : Addr), Γ.cs0[k]? = some a → cs'[k]? = some a) (c2 : ∀ a ∈ cs', a ∈ Γ.cs0 ∨ a ∈ Γ.F0 ∨ Γ.H0 a = none) (g0 : ∀ a ∈ Γ.G, Γ.H0 a ≠ none ∧ a ∉ Γ.F0 ∧ a ∉ Γ.cs0) :
    Good Γ cs' H' σ ρ μ T Fs Ft := by
  have hB' : ∀ a ∈ Fs ++ Ft ++ cs' ++ Γ.G, a ∈ B ∨ H a = none := fun a h => hB a (by simpa [or_assoc] using h)
  exact ⟨sl.on s hc hB' fun a h => hF a (.inl h), tm.on s hc hB' fun a h => hF a (.inr h), ce, nd, kp, fr, c1, c2, g0⟩
/-- .. where the heap stays -/
theorem Good.mk0 (sl : Slots Γ.K Γ.mg cs B H σ ρ Fs) (tm : Temps Γ.K Γ.mg cs B H σ T Ft) (ce : CellsOk Γ.K Γ.mg cs B H cs μ)
    (hB : ∀ a, a ∈ Fs ∨ a ∈ Ft ∨ a ∈ cs ∨ a ∈ Γ.G → a ∈ B)
    (nd : ∀ a, Fs.count a + Ft.count a + cs.count a + Γ.G.count a ≤ 1)
    (kp : ∀ a o, Γ.H0 a = some o → a ∉ Γ.F0 → a ∉ Γ.cs0 → H a = some o) (fr : ∀ a, a ∈ Fs ∨ a ∈ Ft → a ∈ Γ.F0 ∨ Γ.H0 a = none)
    (c1 : ∀ (k : Nat) (a : Addr), Γ.cs0[k]? = some a → cs[k]? = some a) (c2 : ∀ a ∈ cs, a ∈ Γ.cs0 ∨ a ∈ Γ.F0 ∨ Γ.H0 a = none) (g0 : ∀ a ∈ Γ.G, Γ.H0 a ≠ none ∧ a ∉ Γ.F0 ∧ a ∉ Γ.cs0) :
    Good Γ cs H σ ρ μ T Fs Ft :=
  Good.mkS (B := B) (W := []) (Stp.refl H B) (fun _ _ e => e) sl tm (ce.on (W := []) (Stp.refl H B) (fun _ _ e => e) (fun a h => .inl (hB a (by simpa [or_assoc] using h))) fun _ _ h => nomatch h)
    (fun _ _ h => nomatch h) (fun a h => .inl (hB a h)) nd kp fr c1 c2 g0
theorem Good.push0 (g : Good Γ cs H σ ρ μ T Fs Ft) {v : V} {d : D} (r : Rep Γ.K Γ.mg cs (Fs ++ Ft ++ cs ++ Γ.G) H v d []) : Good Γ cs H σ ρ μ ((v, .val d) :: T) Fs Ft :=
  ⟨g.sl, by simpa using Temps.val r g.tm, g.ce, g.nd, g.kp, g.fr, g.c1, g.c2, g.g0⟩
theorem Good.pushs0 (g : Good Γ cs H σ ρ μ T Fs Ft) {vs : List V} {ds : List D} (r : Reps Γ.K Γ.mg cs (Fs ++ Ft ++ cs ++ Γ.G) H vs ds []) : Good Γ cs H σ ρ μ (vals vs ds ++ T) Fs Ft :=
  ⟨g.sl, by simpa using Temps.of_reps r g.tm, g.ce, g.nd, g.kp, g.fr, g.c1, g.c2, g.g0⟩
/-- temps taken off -/
theorem Good.pops (g : Good Γ cs H σ ρ μ T Fs Ft) {U : Tmp} {f f' : List Addr} (e : Ft = f ++ f') (t : Temps Γ.K Γ.mg cs (Fs ++ Ft ++ cs ++ Γ.G) H σ U f') : Good Γ cs H σ ρ μ U Fs f' := by
  subst e
  have nd := g.nd
  simp only [List.count_append] at nd
  exact Good.mk0 g.sl t g.ce (fun a h => by simp only [List.mem_append]; rcases h with h | h | h | h <;> simp [h]) (fun a => by have := nd a; omega) g.kp
    (fun a h => g.fr a (h.imp_right (List.mem_append_right _))) g.c1 g.c2 g.g0
theorem Good.popS {v : V} {it : It} (g : Good Γ cs H σ ρ μ ((v, it) :: T) Fs Ft) : ∃ Ft', Good Γ cs H σ ρ μ T Fs Ft' ∧ ∀ a ∈ Ft', a ∈ Ft := by
  have t := g.tm
  generalize hT : ((v, it) :: T : Tmp) = T' at t
  cases t with
  | nil => cases hT
  | pk h t => cases hT; exact ⟨_, g.pops (f := []) rfl t, fun a h => h⟩
  | val r t => cases hT; exact ⟨_, g.pops rfl t, fun a h => List.mem_append_right _ h⟩
theorem Good.pop {v : V} {it : It} (g : Good Γ cs H σ ρ μ ((v, it) :: T) Fs Ft) : ∃ Ft', Good Γ cs H σ ρ μ T Fs Ft' := let ⟨F, h, _⟩ := g.popS; ⟨F, h⟩
theorem ban {Fs Ft Ft' cs G : List Addr} (h : ∀ a ∈ Ft', a ∈ Ft) : ∀ a ∈ Fs ++ Ft' ++ cs ++ G, a ∈ Fs ++ Ft ++ cs ++ G := fun a ha => by
  simp only [List.mem_append] at ha ⊢
  rcases ha with ((z | z) | z) | z
  · simp [z]
  · simp [h a z]
  · simp [z]
  · simp [z]
/-- the datum of an operand -/
def It.at : It → Env → Option D
  | .val d, _ => some d
  | .pk i, ρ => ρ[i]?.getD none
/-- an operand is looked at -/
theorem Good.look {v : V} {it : It} (g : Good Γ cs H σ ρ μ ((v, it) :: T) Fs Ft) {d : D} (e : it.at ρ = some d) : ∃ f, Rep Γ.K Γ.mg cs (Fs ++ Ft ++ cs ++ Γ.G) H v d f := by
  have t := g.tm
  generalize hT : ((v, it) :: T : Tmp) = T' at t
  cases t with
  | nil => cases hT
  | @pk v i T g0 h t =>
    cases hT
    simp only [It.at] at e
    have e' : ρ[i]? = some (some d) := by
      cases q : ρ[i]? with
      | none => rw [q] at e; cases e
      | some o => rw [q] at e; exact congrArg some e
    obtain ⟨v', f, _, h1, h2, _⟩ := g.sl.out e'
    rw [h] at h1; cases h1
    exact ⟨f, h2⟩
  | val r t => cases hT; simp only [It.at] at e; cases e; exact ⟨_, r⟩
end
end DL
namespace DL
open PySem L2
section
variable {Γ : Gm} {cs cs' : List Addr} {H H' : Hp} {σ σ' : St} {ρ ρ' : Env} {μ μ' : Cells} {T T' : Tmp} {Fs Ft Fs' Ft' B W : List Addr}
/-- several temps become one new list -/
theorem Good.allocL {vs : List V} {ds : List D} (g : Good Γ cs H σ ρ μ (vals vs ds ++ T) Fs Ft) (hl : vs.length = ds.length) {p : Addr} (hp : H p = none) :
    ∃ Ft', Good Γ cs (upd H p (.lst vs)) σ ρ μ ((.ref p, .val (.lst true ds)) :: T) Fs Ft' := by
  obtain ⟨f, f', rfl, r, t⟩ := Temps.to_reps hl g.tm
  obtain ⟨n1, n2, n3, n4, n5⟩ := g.fresh hp
  rw [List.mem_append, not_or] at n2
  have s := Stp.alloc (o := .lst vs) (Fs ++ (f ++ f') ++ cs ++ Γ.G) hp
  have nd := g.nd
  simp only [List.count_append] at nd
  have hB : ∀ a, a ∈ Fs ∨ a ∈ p :: f ++ f' ∨ a ∈ cs ∨ a ∈ Γ.G → a ∈ (Fs ++ (f ++ f') ++ cs ++ Γ.G) ∨ H a = none := fun a h => by
    simp only [List.mem_append, List.mem_cons] at h ⊢
    rcases h with h | ((h | h) | h) | h | h
    · simp [h]
    · subst h; exact .inr hp
    all_goals simp [h]
  refine ⟨p :: f ++ f', ?_⟩
  have hB' : ∀ a ∈ Fs ++ (p :: f ++ f') ++ cs ++ Γ.G, a ∈ (Fs ++ (f ++ f') ++ cs ++ Γ.G) ∨ H a = none := fun a h => hB a (by simpa [or_assoc] using h)
  have nW : ∀ {l : List Addr}, ∀ a ∈ l, a ∉ ([] : List Addr) := fun _ _ h => nomatch h
  have c0 : p ∉ cs := n3
  refine ⟨g.sl.on s (fun _ _ e => e) hB' nW, .val (.lstO upd_same (r.on s (fun _ _ e => e) hB' nW)) (t.on s (fun _ _ e => e) hB' nW), g.ce.on s (fun _ _ e => e) hB' nW, fun a => ?_, fun a o e h1 h2 => ?_, fun a h => ?_, g.c1, g.c2, g.g0⟩
  · have := nd a
    simp only [List.cons_append, List.count_cons, List.count_append]
    by_cases hpa : p = a
    · subst hpa
      have e1 := List.count_eq_zero.mpr n1
      have e2 := List.count_eq_zero.mpr n2.1
      have e3 := List.count_eq_zero.mpr n2.2
      have e4 := List.count_eq_zero.mpr n3
      have e5 := List.count_eq_zero.mpr n4
      simp only [beq_self_eq_true, if_true]; omega
    · have : (p == a) = false := by simpa using hpa
      simp only [this]; simp; omega
  · have := g.kp a o e h1 h2
    rw [upd_ne (ne_of_none this hp)]; exact this
  · simp only [List.cons_append, List.mem_cons, List.mem_append] at h
    rcases h with h | h | h | h
    · exact g.fr a (.inl h)
    · subst h
      rcases n5 with z | z | z
      · exact .inl z
      · exact absurd (by
          obtain ⟨k, hk⟩ := List.getElem?_of_mem z
          exact List.mem_of_getElem? (g.c1 k a hk)) n3
      · exact .inr z
    · exact g.fr a (.inr (by simp [h]))
    · exact g.fr a (.inr (by simp [h]))
/-- .. a new tuple -/
theorem Good.allocT {vs : List V} {ds : List D} (g : Good Γ cs H σ ρ μ (vals vs ds ++ T) Fs Ft) (hl : vs.length = ds.length) {p : Addr} (hp : H p = none) :
    Good Γ cs (upd H p (.tup vs)) σ ρ μ ((.ref p, .val (.tup ds)) :: T) Fs Ft := by
  obtain ⟨f, f', rfl, r, t⟩ := Temps.to_reps hl g.tm
  have s := Stp.alloc (o := .tup vs) (Fs ++ (f ++ f') ++ cs ++ Γ.G) hp
  have hB' : ∀ a ∈ Fs ++ (f ++ f') ++ cs ++ Γ.G, a ∈ (Fs ++ (f ++ f') ++ cs ++ Γ.G) ∨ H a = none := fun a h => .inl h
  have nW : ∀ {l : List Addr}, ∀ a ∈ l, a ∉ ([] : List Addr) := fun _ _ h => nomatch h
  refine ⟨g.sl.on s (fun _ _ e => e) hB' nW, .val (.tup (SqT.of upd_same) (r.on s (fun _ _ e => e) hB' nW)) (t.on s (fun _ _ e => e) hB' nW), g.ce.on s (fun _ _ e => e) hB' nW, g.nd, fun a o e h1 h2 => ?_, g.fr, g.c1, g.c2, g.g0⟩
  have := g.kp a o e h1 h2
  rw [upd_ne (ne_of_none this hp)]; exact this
/-- any other new thing -/
theorem Good.alloc0 (g : Good Γ cs H σ ρ μ T Fs Ft) {p : Addr} {o : HO} (hp : H p = none) : Good Γ cs (upd H p o) σ ρ μ T Fs Ft := by
  have s := Stp.alloc (o := o) (Fs ++ Ft ++ cs ++ Γ.G) hp
  have nW : ∀ {l : List Addr}, ∀ a ∈ l, a ∉ ([] : List Addr) := fun _ _ h => nomatch h
  refine ⟨g.sl.on s (fun _ _ e => e) (fun _ h => .inl h) nW, g.tm.on s (fun _ _ e => e) (fun _ h => .inl h) nW, g.ce.on s (fun _ _ e => e) (fun _ h => .inl h) nW, g.nd, fun a o e h1 h2 => ?_, g.fr, g.c1, g.c2, g.g0⟩
  have := g.kp a o e h1 h2
  rw [upd_ne (ne_of_none this hp)]; exact this
/-- the top temp is shared from now on -/
theorem Good.shareTop {v : V} {d : D} (g : Good Γ cs H σ ρ μ ((v, .val d) :: T) Fs Ft) : ∃ Ft', Good Γ cs H σ ρ μ ((v, .val d.share) :: T) Fs Ft' := by
  have t := g.tm
  generalize hT : ((v, .val d) :: T : Tmp) = T' at t
  cases t with
  | nil => cases hT
  | pk h t => cases hT
  | @val v d f T f' r t =>
    cases hT
    refine ⟨f', (g.pops rfl t).push0 (r.share (fun a h => ?_) fun a h => ?_)⟩
    · simp only [List.mem_append] at h ⊢
      rcases h with ((h | h) | h) | h <;> simp [h]
    · have nd := g.nd a
      simp only [List.count_append] at nd
      have := memc.mp h
      intro hm
      simp only [List.mem_append, memc] at hm
      omega
theorem Good.shareTops {ds : List D} {vs : List V} (hl : vs.length = ds.length) (g : Good Γ cs H σ ρ μ (vals vs ds ++ T) Fs Ft) : ∃ Ft', Good Γ cs H σ ρ μ (vals vs (D.shares ds) ++ T) Fs Ft' := by
  obtain ⟨f, f', rfl, r, t⟩ := Temps.to_reps hl g.tm
  refine ⟨f', (g.pops rfl t).pushs0 (r.share (fun a h => ?_) fun a h => ?_)⟩
  · simp only [List.mem_append] at h ⊢
    rcases h with ((h | h) | h) | h <;> simp [h]
  · have nd := g.nd a
    simp only [List.count_append] at nd
    have := memc.mp h
    intro hm
    simp only [List.mem_append, memc] at hm
    omega
theorem setNone {ρ : Env} {i : Nat} {d : D} (e : ρ[i]? = some (some d)) (o : Option D) : (ρ.set i none).set i o = ρ.set i o := by rw [List.set_set]
theorem atNone {ρ : Env} {i : Nat} {d : D} (e : ρ[i]? = some (some d)) : (ρ.set i none)[i]? = some none := by
  obtain ⟨hl, _⟩ := List.getElem?_eq_some_iff.mp e
  rw [List.getElem?_set_self hl]
/-- a name is read, its value is the reader's -/
theorem Good.getMv (g : Good Γ cs H σ ρ μ T Fs Ft) {i : Nat} {d : D} (e : ρ[i]? = some (some d)) : ∃ v Fs' Ft', σ[i]? = some (some v) ∧ Good Γ cs H σ (ρ.set i none) μ ((v, .val d) :: T) Fs' Ft' := by
  obtain ⟨v, f, F, h1, r, sl, hc⟩ := g.sl.out e
  refine ⟨v, F, f ++ Ft, h1, ?_⟩
  refine Good.mk0 sl (.val r g.tm) g.ce (fun a h => ?_) (fun a => ?_) g.kp (fun a h => ?_) g.c1 g.c2 g.g0
  · have := hc a
    simp only [List.mem_append, memc] at h ⊢
    omega
  · have := hc a; have := g.nd a
    simp only [List.count_append]; omega
  · refine g.fr a ?_
    have := hc a
    simp only [List.mem_append, memc] at h ⊢
    omega
/-- .. is everybody's from now on -/
theorem Good.getS (g : Good Γ cs H σ ρ μ T Fs Ft) {i : Nat} {d : D} (e : ρ[i]? = some (some d)) : ∃ v Fs', σ[i]? = some (some v) ∧ Good Γ cs H σ (ρ.set i (some d.share)) μ ((v, .val d.share) :: T) Fs' Ft := by
  obtain ⟨v, f, F, h1, r, sl, hc⟩ := g.sl.out e
  have hin : ∀ a ∈ F ++ Ft ++ cs ++ Γ.G, a ∈ Fs ++ Ft ++ cs ++ Γ.G := fun a h => by
    have := hc a
    simp only [List.mem_append, memc] at h ⊢
    omega
  have r' : Rep Γ.K Γ.mg cs (F ++ Ft ++ cs ++ Γ.G) H v d.share [] := r.share hin fun a h hm => by
    have := hc a; have := g.nd a; have := memc.mp h
    simp only [List.mem_append, memc] at hm
    omega
  have nW : ∀ {l : List Addr}, ∀ a ∈ l, a ∉ ([] : List Addr) := fun _ _ h => nomatch h
  have sl' := sl.on (B' := F ++ Ft ++ cs ++ Γ.G) (cs' := cs) (W := []) (Stp.refl H (Fs ++ Ft ++ cs ++ Γ.G)) (fun _ _ e => e) (fun a h => .inl (hin a h)) nW
  obtain ⟨F', sl2, hc2⟩ := sl'.put (atNone e) h1 r'
  rw [List.set_set] at sl2
  refine ⟨v, F', h1, ?_⟩
  have tm' := g.tm.on (B' := F ++ Ft ++ cs ++ Γ.G) (cs' := cs) (W := []) (Stp.refl H (Fs ++ Ft ++ cs ++ Γ.G)) (fun _ _ e => e) (fun a h => .inl (hin a h)) nW
  have ce' := g.ce.on (B' := F ++ Ft ++ cs ++ Γ.G) (cs' := cs) (W := []) (Stp.refl H (Fs ++ Ft ++ cs ++ Γ.G)) (fun _ _ e => e) (fun a h => .inl (hin a h)) nW
  refine Good.mk0 (B := F ++ Ft ++ cs ++ Γ.G) sl2 (by simpa using Temps.val r' tm') ce' (fun a h => ?_) (fun a => ?_) g.kp (fun a h => ?_) g.c1 g.c2 g.g0
  · have := hc2 a
    simp only [List.mem_append, memc, List.count_nil] at h this ⊢
    omega
  · have h1 := hc a; have h2 := hc2 a; have h3 := g.nd a
    rw [List.count_nil] at h2
    omega
  · refine g.fr a ?_
    have h1 := hc a; have h2 := hc2 a
    rw [List.count_nil] at h2
    simp only [memc] at h ⊢
    omega
theorem Good.getP (g : Good Γ cs H σ ρ μ T Fs Ft) {i : Nat} {d : D} (e : ρ[i]? = some (some d)) : ∃ v, σ[i]? = some (some v) ∧ Good Γ cs H σ ρ μ ((v, .pk i) :: T) Fs Ft := by
  obtain ⟨v, f, F, h1, r, sl, hc⟩ := g.sl.out e
  exact ⟨v, h1, g.sl, .pk h1 g.tm, g.ce, g.nd, g.kp, g.fr, g.c1, g.c2, g.g0⟩
/-- nothing but data among the temps -/
def noPk : Tmp → Bool
  | [] => true
  | (_, .val _) :: T => noPk T
  | (_, .pk _) :: _ => false
theorem Temps.other {K : PySem.W.Frag} {mg : Str → Option Value} {σ σ' : St} {T : Tmp} {F : List Addr} (h : Temps K mg cs B H σ T F) (n : noPk T = true) : Temps K mg cs B H σ' T F := by
  induction h with
  | nil => exact .nil
  | pk e _ ih => simp [noPk] at n
  | val r _ ih => exact .val r (ih n)
/-- the top temp is stored in a slot -/
theorem Good.set {v : V} {d : D} (g : Good Γ cs H σ ρ μ ((v, .val d) :: T) Fs Ft) (n : noPk T = true) {i : Nat} (hi : i < σ.length) : ∃ Fs' Ft', Good Γ cs H (σ.set i (some v)) (ρ.set i (some d)) μ T Fs' Ft' := by
  have t := g.tm
  generalize hT : ((v, .val d) :: T : Tmp) = T' at t
  cases t with
  | nil => cases hT
  | pk h t => cases hT
  | @val v d f T f' r t =>
    cases hT
    obtain ⟨F, sl, hc⟩ := g.sl.drop i
    have hlen := g.sl.len
    have e0 : (ρ.set i none)[i]? = some none := by rw [List.getElem?_set_self (by omega)]
    have sl1 := sl.any e0 (some v)
    obtain ⟨F', sl2, hc2⟩ := sl1.put e0 (v := v) (by rw [List.getElem?_set_self hi]) r
    rw [List.set_set] at sl2
    refine ⟨F', f', Good.mk0 sl2 (t.other n) g.ce (fun a h => ?_) (fun a => ?_) g.kp (fun a h => ?_) g.c1 g.c2 g.g0⟩
    · have := hc a; have := hc2 a
      simp only [List.mem_append, memc] at h ⊢
      omega
    · have := hc a; have := hc2 a; have := g.nd a
      simp only [List.count_append] at this; omega
    · refine g.fr a ?_
      have := hc a; have := hc2 a
      simp only [List.mem_append, memc] at h ⊢
      omega
/-- a slot is forgotten -/
theorem Good.unset (g : Good Γ cs H σ ρ μ T Fs Ft) (i : Nat) : ∃ Fs', Good Γ cs H σ (ρ.set i none) μ T Fs' Ft := by
  obtain ⟨F, sl, hc⟩ := g.sl.drop i
  refine ⟨F, Good.mk0 sl g.tm g.ce (fun a h => ?_) (fun a => ?_) g.kp (fun a h => ?_) g.c1 g.c2 g.g0⟩
  · have := hc a
    simp only [List.mem_append, memc] at h ⊢
    omega
  · have := hc a; have := g.nd a; omega
  · refine g.fr a ?_
    have := hc a
    simp only [memc] at h ⊢
    omega
end
end DL
namespace DL
open PySem L2
/-! ### the mirror's monad -/
structure Sg where
  ρ : Env
  μ : Cells
inductive R (α : Type) where
  | ok (a : α)
  | err (c : Str) (v : D)
abbrev M (α : Type) := Sg → Option (R α × Sg)
def ret {α : Type} (a : α) : M α := fun s => some (.ok a, s)
def bnd {α β : Type} (m : M α) (k : α → M β) : M β := fun s =>
  match m s with
  | none => none
  | some (.ok a, s') => k a s'
  | some (.err c v, s') => some (.err c v, s')
/-- a value or nothing -/
def lft {α : Type} (o : Option α) : M α := fun s =>
  match o with
  | none => none
  | some a => some (.ok a, s)
/-- what is to hold behind a run -/
def After {α : Type} (W : WX) (Γ : Gm) (σ : St) (T : Tmp) (k : α → Sg → Prop) : Option (R α × Sg) → Prop
  | none => False
  | some (.ok a, s) => k a s
  | some (.err c dv, s) => ∀ (C d : Addr) (v : V) (H : Hp) (cs Fs Ft : List Addr), Good Γ cs H σ s.ρ s.μ ((v, .val dv) :: T) Fs Ft → dv.free = true → Γ.mg c = some (.ref C) → H d = some (.xd [(("value" : Str), v)]) → W (.ref C) (some d) σ H
theorem After.bnd {α β : Type} {W : WX} {Γ : Gm} {σ : St} {T : Tmp} {k : β → Sg → Prop} {m : M α} {f : α → M β} {s : Sg} (h : After W Γ σ T k (bnd m f s)) : After W Γ σ T (fun a s' => After W Γ σ T k (f a s')) (m s) := by
  unfold DL.bnd at h
  cases e : m s with
  | none => rw [e] at h; exact h.elim
  | some p =>
    rw [e] at h
    obtain ⟨r, s'⟩ := p
    cases r with
    | ok a => exact h
    | err c v => exact h
theorem After.mono {α : Type} {W : WX} {Γ : Gm} {σ : St} {T : Tmp} {k k' : α → Sg → Prop} {o : Option (R α × Sg)} (h : After W Γ σ T k o) (hk : ∀ a s, k a s → k' a s) : After W Γ σ T k' o := by
  cases o with
  | none => exact h
  | some p =>
    obtain ⟨r, s'⟩ := p
    cases r with
    | ok a => exact hk _ _ h
    | err c v => exact h
/-- .. under more temps -/
theorem After.push {α : Type} {W : WX} {Γ : Gm} {σ : St} {T : Tmp} {x : V} {it : It} {k : α → Sg → Prop} {o : Option (R α × Sg)} (h : After W Γ σ T k o) : After W Γ σ ((x, it) :: T) k o := by
  cases o with
  | none => exact h
  | some p =>
    obtain ⟨r, s'⟩ := p
    cases r with
    | ok a => exact h
    | err c dv =>
      intro C d v H cs Fs Ft g hf hm hd
      -- the value stays, the temp goes
      have t := g.tm
      generalize hT : ((v, .val dv) :: (x, it) :: T : Tmp) = T' at t
      cases t with
      | nil => cases hT
      | pk h t => cases hT
      | @val v0 d0 f T0 f' r t =>
        cases hT
        have e := r.free hf
        subst e
        obtain ⟨Ft2, g2⟩ := (g.pops (f := []) rfl t).pop
        have g2' := g2
        -- re-make the value's rep over the smaller ban
        have t2 := t
        generalize hT2 : ((x, it) :: T : Tmp) = T2 at t2
        cases t2 with
        | nil => cases hT2
        | pk h3 t3 =>
          cases hT2
          exact h C d v H cs Fs _ ((g.pops (f := []) rfl t3).push0 r) hf hm hd
        | @val v1 d1 f1 T1 f1' r1 t3 =>
          cases hT2
          refine h C d v H cs Fs f1' ((g.pops (f := f1) rfl t3).push0 (r.on (W := []) (Stp.refl H _) (fun _ _ e => e) (fun a ha => .inl ?_) fun _ h => nomatch h)) hf hm hd
          simp only [List.nil_append, List.mem_append] at ha ⊢
          rcases ha with ((h | h) | h) | h <;> simp [h]

/-! ### the judgements, as readings of the hand layer -/
/-- an expression that runs m -/
def TD (X : Cx) (W : WX) (m : M It) : TE := fun σ H Q => ∃ (Γ : Gm) (cs : List Addr) (s : Sg) (T : Tmp) (Fs Ft : List Addr), Γ.K = X.K ∧ Γ.mg = X.mg ∧ Good Γ cs H σ s.ρ s.μ T Fs Ft ∧
  After W Γ σ T (fun it s' => ∀ v H' cs' Fs' Ft', Good Γ cs' H' σ s'.ρ s'.μ ((v, it) :: T) Fs' Ft' → Q v H') (m s)
/-- a test -/
def TB (X : Cx) (W : WX) (m : M Bool) : TT := fun σ H Q => ∃ (Γ : Gm) (cs : List Addr) (s : Sg) (T : Tmp) (Fs Ft : List Addr), Γ.K = X.K ∧ Γ.mg = X.mg ∧ Good Γ cs H σ s.ρ s.μ T Fs Ft ∧
  After W Γ σ T (fun b s' => ∀ H' cs' Fs' Ft', Good Γ cs' H' σ s'.ρ s'.μ T Fs' Ft' → Q b H') (m s)
/-- arguments -/
def TAs (X : Cx) (W : WX) (m : M (List It)) : TA := fun σ H Q => ∃ (Γ : Gm) (cs : List Addr) (s : Sg) (T : Tmp) (Fs Ft : List Addr), Γ.K = X.K ∧ Γ.mg = X.mg ∧ Good Γ cs H σ s.ρ s.μ T Fs Ft ∧
  After W Γ σ T (fun its s' => ∀ vs H' cs' Fs' Ft', vs.length = its.length → Good Γ cs' H' σ s'.ρ s'.μ (List.zip vs its ++ T) Fs' Ft' → Q vs H') (m s)
inductive Fl where
  | nx | bk | ct
  | rt (d : D)
/-- .. behind a statement: the slots may be others -/
def AfterS (W : WX) (Γ : Gm) (T : Tmp) (D : Ends) : Option (R Fl × Sg) → Prop
  | none => False
  | some (.ok .nx, s) => ∀ σ H cs Fs Ft, Good Γ cs H σ s.ρ s.μ T Fs Ft → D.nx σ H
  | some (.ok .bk, s) => ∀ σ H cs Fs Ft, Good Γ cs H σ s.ρ s.μ T Fs Ft → D.bk σ H
  | some (.ok .ct, s) => ∀ σ H cs Fs Ft, Good Γ cs H σ s.ρ s.μ T Fs Ft → D.ct σ H
  | some (.ok (.rt d), s) => ∀ v σ H cs Fs Ft, Good Γ cs H σ s.ρ s.μ ((v, .val d) :: T) Fs Ft → D.rt v H
  | some (.err c dv, s) => ∀ (C d : Addr) (v : V) (σ : St) (H : Hp) (cs Fs Ft : List Addr), Good Γ cs H σ s.ρ s.μ ((v, .val dv) :: T) Fs Ft → dv.free = true → Γ.mg c = some (.ref C) → H d = some (.xd [(("value" : Str), v)]) → W (.ref C) (some d) σ H
def TSt (X : Cx) (W : WX) (m : M Fl) : TS := fun D σ H => ∃ (Γ : Gm) (cs : List Addr) (s : Sg) (T : Tmp) (Fs Ft : List Addr), Γ.K = X.K ∧ Γ.mg = X.mg ∧ noPk T = true ∧ Good Γ cs H σ s.ρ s.μ T Fs Ft ∧ AfterS W Γ T D (m s)

theorem PE.imp {X : Cx} {e : Expr} {t u : TE} (h : PE X e t) (k : ∀ σ H Q, u σ H Q → t σ H Q) : PE X e u := ⟨fun pins s σ H Q I q => h.run pins s σ H Q I (k σ H Q q)⟩
theorem PT.imp {X : Cx} {e : Expr} {t u : TT} (h : PT X e t) (k : ∀ σ H Q, u σ H Q → t σ H Q) : PT X e u := ⟨fun pins s σ H Q I q => h.run pins s σ H Q I (k σ H Q q)⟩
theorem PA.imp {X : Cx} {e : List Expr} {t u : TA} (h : PA X e t) (k : ∀ σ H Q, u σ H Q → t σ H Q) : PA X e u := ⟨fun pos pins s σ H Q I q => h.run pos pins s σ H Q I (k σ H Q q)⟩
theorem PS.imp {X : Cx} {e : Stmt} {t u : TS} (h : PS X e t) (k : ∀ D σ H, u D σ H → t D σ H) : PS X e u := ⟨fun pins s σ H D I q => h.run pins s σ H D I (k D σ H q)⟩
theorem PSs.imp {X : Cx} {e : List Stmt} {t u : TS} (h : PSs X e t) (k : ∀ D σ H, u D σ H → t D σ H) : PSs X e u := ⟨fun pins s σ H D I q => h.run pins s σ H D I (k D σ H q)⟩

/-! ### scalars -/
inductive Scal : V → D → Prop
  | none : Scal .non .none
  | bool (b : Bool) : Scal (.bl b) (.bool b)
  | int (i : Int) : Scal (.int i) (.int i)
  | str (x : Str) : Scal (.str x) (.str x)
theorem Scal.rep {v : V} {d : D} (h : Scal v d) {K : PySem.W.Frag} {mg : Str → Option Value} {cs B : List Addr} {H : Hp} : Rep K mg cs B H v d [] := by
  cases h
  · exact .none
  · exact .bool _
  · exact .int _
  · exact .str _
section
variable {X : Cx} {W : WX}
/-! ### constants, names -/
def kst (d : D) : M It := ret (.val d)
theorem dc {e : Expr} {v : V} {d : D} (h : PE X e (tC v)) (k : Scal v d) : PE X e (TD X W (kst d)) :=
  PE.imp h fun σ H Q ⟨Γ, cs, s, T, Fs, Ft, hK, hM, g, a⟩ => a v H cs Fs Ft (g.push0 k.rep)
/-- a name: shared, moved, looked at later -/
def gS (i : Nat) : M It := fun s =>
  match s.ρ[i]? with
  | some (some d) => some (.ok (.val d.share), ⟨s.ρ.set i (some d.share), s.μ⟩)
  | _ => none
def gM (i : Nat) : M It := fun s =>
  match s.ρ[i]? with
  | some (some d) => some (.ok (.val d), ⟨s.ρ.set i none, s.μ⟩)
  | _ => none
def gP (i : Nat) : M It := fun s =>
  match s.ρ[i]? with
  | some (some _) => some (.ok (.pk i), s)
  | _ => none
theorem dS {e : Expr} {i : Nat} (h : PE X e (tVar i)) : PE X e (TD X W (gS i)) :=
  PE.imp h fun σ H Q ⟨Γ, cs, s, T, Fs, Ft, hK, hM, g, a⟩ => by
    unfold gS at a
    split at a
    · rename_i d e
      obtain ⟨v, Fs', h1, g'⟩ := g.getS e
      exact ⟨v, h1, a v H cs Fs' Ft g'⟩
    · exact a.elim
theorem dM {e : Expr} {i : Nat} (h : PE X e (tVar i)) : PE X e (TD X W (gM i)) :=
  PE.imp h fun σ H Q ⟨Γ, cs, s, T, Fs, Ft, hK, hM, g, a⟩ => by
    unfold gM at a
    split at a
    · rename_i d e
      obtain ⟨v, Fs', Ft', h1, g'⟩ := g.getMv e
      exact ⟨v, h1, a v H cs Fs' Ft' g'⟩
    · exact a.elim
theorem dP {e : Expr} {i : Nat} (h : PE X e (tVar i)) : PE X e (TD X W (gP i)) :=
  PE.imp h fun σ H Q ⟨Γ, cs, s, T, Fs, Ft, hK, hM, g, a⟩ => by
    unfold gP at a
    split at a
    · rename_i d e
      obtain ⟨v, h1, g'⟩ := g.getP e
      exact ⟨v, h1, a v H cs Fs Ft g'⟩
    · exact a.elim
/-- a module's constant -/
theorem dG {e : Expr} {v : V} {d : D} (h : PE X e (tC v)) (k : ∀ cs B H, Rep X.K X.mg cs B H v d []) : PE X e (TD X W (kst d)) :=
  PE.imp h fun σ H Q ⟨Γ, cs, s, T, Fs, Ft, hK, hM, g, a⟩ => a v H cs Fs Ft (g.push0 (by rw [hK, hM]; exact k _ _ _))
/-- an expression in the midst of others -/
theorem TD.go {Γ : Gm} {m : M It} {σ : St} {H : Hp} {cs Fs Ft : List Addr} {s : Sg} {T : Tmp} {Q : VK} (hK : Γ.K = X.K) (hM : Γ.mg = X.mg) (g : Good Γ cs H σ s.ρ s.μ T Fs Ft)
    (a : After W Γ σ T (fun it s' => ∀ v H' cs' Fs' Ft', Good Γ cs' H' σ s'.ρ s'.μ ((v, it) :: T) Fs' Ft' → Q v H') (m s)) : TD X W m σ H Q := ⟨Γ, cs, s, T, Fs, Ft, hK, hM, g, a⟩

/-! ### operands: looked at, or taken -/
/-- a cell is looked at as the list that it holds now -/
def It.ato (i : It) (s : Sg) : Option D :=
  match i.at s.ρ with
  | some (.cell k) => (s.μ[k]?).map (.lst false)
  | o => o
theorem Rep.loose {K : PySem.W.Frag} {mg : Str → Option Value} {cs B : List Addr} {H : Hp} {v : V} {d : D} {f : List Addr} (r : Rep K mg cs B H v d f) : Rep K mg cs [] H v d f :=
  r.on (W := []) (B' := []) (Stp.refl H B) (fun _ _ e => e) (fun _ h => nomatch h) fun _ _ h => nomatch h
theorem Reps.loose {K : PySem.W.Frag} {mg : Str → Option Value} {cs B : List Addr} {H : Hp} {v : List V} {d : List D} {f : List Addr} (r : Reps K mg cs B H v d f) : Reps K mg cs [] H v d f :=
  r.on (W := []) (B' := []) (Stp.refl H B) (fun _ _ e => e) (fun _ h => nomatch h) fun _ _ h => nomatch h
theorem Good.cell {Γ : Gm} {cs : List Addr} {H : Hp} {σ : St} {ρ : Env} {μ : Cells} {T : Tmp} {Fs Ft : List Addr} (g : Good Γ cs H σ ρ μ T Fs Ft) {k : Nat} {a : Addr} {ds : List D} (hc : cs[k]? = some a) (e : μ[k]? = some ds) :
    ∃ xs, H a = some (.lst xs) ∧ Reps Γ.K Γ.mg cs (Fs ++ Ft ++ cs ++ Γ.G) H xs ds [] := by
  obtain ⟨a', xs, h1, h2, h3⟩ := g.ce.get e
  rw [hc] at h1; cases h1
  exact ⟨xs, h2, h3⟩
theorem Good.looko {Γ : Gm} {cs : List Addr} {H : Hp} {σ : St} {s : Sg} {T : Tmp} {Fs Ft : List Addr} {v : V} {it : It} (g : Good Γ cs H σ s.ρ s.μ ((v, it) :: T) Fs Ft) {d : D} (e : it.ato s = some d) : ∃ f, Rep Γ.K Γ.mg cs [] H v d f := by
  unfold It.ato at e
  split at e
  · rename_i k hk
    obtain ⟨f, r⟩ := g.look hk
    cases r with
    | cell hc =>
      rw [Option.map_eq_some_iff] at e
      obtain ⟨ds, he, rfl⟩ := e
      obtain ⟨xs, hx, rs⟩ := g.cell hc he
      exact ⟨[], .lstS hx (by simp) rs.loose⟩
  · obtain ⟨f, r⟩ := g.look e
    exact ⟨f, r.loose⟩
/-- .. to be kept within something new: shared -/
def It.sat : It → Env → Option D
  | .val d, _ => some d.share
  | .pk i, ρ => match ρ[i]?.getD none with
    | some d => if d.free then some d else none
    | none => none
theorem Good.sat {Γ : Gm} {cs : List Addr} {H : Hp} {σ : St} {ρ : Env} {μ : Cells} {T : Tmp} {Fs Ft : List Addr} {v : V} {it : It} (g : Good Γ cs H σ ρ μ ((v, it) :: T) Fs Ft) {d : D} (e : it.sat ρ = some d) :
    ∃ Ft', Good Γ cs H σ ρ μ T Fs Ft' ∧ Rep Γ.K Γ.mg cs (Fs ++ Ft' ++ cs ++ Γ.G) H v d [] ∧ d.free = true ∧ ∀ a ∈ Ft', a ∈ Ft := by
  cases it with
  | val d0 =>
    simp only [It.sat] at e; cases e
    have t := g.tm
    generalize hT : ((v, .val d0) :: T : Tmp) = T' at t
    cases t with
    | nil => cases hT
    | pk h t => cases hT
    | @val v1 d1 f1 T1 f1' r1 t3 =>
      cases hT
      refine ⟨f1', g.pops rfl t3, r1.share (fun a h => ?_) fun a h => ?_, D.free_share d0, fun a h => List.mem_append_right _ h⟩
      · simp only [List.mem_append] at h ⊢
        rcases h with ((h | h) | h) | h <;> simp [h]
      · have nd := g.nd a
        simp only [List.count_append] at nd
        have := memc.mp h
        intro hm
        simp only [List.mem_append, memc] at hm
        omega
  | pk i =>
    simp only [It.sat] at e
    split at e
    · rename_i d1 q
      split at e
      · rename_i hf
        cases e
        have t := g.tm
        generalize hT : ((v, .pk i) :: T : Tmp) = T' at t
        cases t with
        | nil => cases hT
        | val r t => cases hT
        | @pk v1 i1 T1 g1 h t =>
          cases hT
          have e' : ρ[i]? = some (some d) := by
            cases q' : ρ[i]? with
            | none => rw [q'] at q; cases q
            | some o => rw [q'] at q; exact congrArg some q
          obtain ⟨v', f, _, h1, r, _⟩ := g.sl.out e'
          rw [h] at h1; cases h1
          have ef := r.free hf
          subst ef
          exact ⟨Ft, g.pops (f := []) rfl t, r, hf, fun a h => h⟩
      · cases e
    · cases e
theorem Rep.less {K : PySem.W.Frag} {mg : Str → Option Value} {cs B B' : List Addr} {H : Hp} {v : V} {d : D} (r : Rep K mg cs B H v d []) (h : ∀ a ∈ B', a ∈ B) : Rep K mg cs B' H v d [] :=
  r.on (W := []) (Stp.refl H B) (fun _ _ e => e) (fun a ha => .inl (h a ha)) fun _ h => nomatch h
/-- an operand whose things are taken: known data, or a list that somebody owns or may change, by its things of now -/
inductive RepE (K : PySem.W.Frag) (mg : Str → Option Value) (cs B : List Addr) (H : Hp) : V → D → Prop
  | rep {v : V} {d : D} : Rep K mg cs B H v d [] → RepE K mg cs B H v d
  | lst {a : Addr} {xs : List V} {ds : List D} : H a = some (.lst xs) → Reps K mg cs B H xs ds [] → RepE K mg cs B H (.ref a) (.lst false ds)
theorem RepE.un {K : PySem.W.Frag} {mg : Str → Option Value} {cs B : List Addr} {H : Hp} {v : V} {d : D} (h : RepE K mg cs B H v d) (n : ∀ o ds, d ≠ .lst o ds) : Rep K mg cs B H v d [] := by
  cases h with
  | rep r => exact r
  | lst _ _ => exact absurd rfl (n _ _)
theorem RepE.lstT {K : PySem.W.Frag} {mg : Str → Option Value} {cs B : List Addr} {H : Hp} {v : V} {o : Bool} {ds : List D} (r : RepE K mg cs B H v (.lst o ds)) : ∃ a xs, v = .ref a ∧ H a = some (.lst xs) ∧ Reps K mg cs B H xs ds [] := by
  cases r with
  | rep r => cases r with
    | lstS h _ r => exact ⟨_, _, rfl, h, r⟩
  | lst h r => exact ⟨_, _, rfl, h, r⟩
theorem RepE.less {K : PySem.W.Frag} {mg : Str → Option Value} {cs B B' : List Addr} {H : Hp} {v : V} {d : D} (r : RepE K mg cs B H v d) (h : ∀ a ∈ B', a ∈ B) : RepE K mg cs B' H v d := by
  cases r with
  | rep r => exact .rep (r.less h)
  | lst e r => exact .lst e (r.on (W := []) (Stp.refl H B) (fun _ _ e => e) (fun a ha => .inl (h a ha)) fun _ h => nomatch h)
def It.sate (i : It) (s : Sg) : Option D :=
  match i with
  | .val (.cell k) => (s.μ[k]?).map (.lst false)
  | .val d => some d.share
  | .pk j => match s.ρ[j]?.getD none with
    | some (.cell k) => (s.μ[k]?).map (.lst false)
    | some (.lst true ds) => if D.frees ds then some (.lst false ds) else none
    | some d => if d.free then some d else none
    | none => none
theorem Good.sate {Γ : Gm} {cs : List Addr} {H : Hp} {σ : St} {s : Sg} {T : Tmp} {Fs Ft : List Addr} {v : V} {it : It} (g : Good Γ cs H σ s.ρ s.μ ((v, it) :: T) Fs Ft) {d : D} (e : it.sate s = some d) :
    ∃ Ft', Good Γ cs H σ s.ρ s.μ T Fs Ft' ∧ RepE Γ.K Γ.mg cs (Fs ++ Ft' ++ cs ++ Γ.G) H v d ∧ ∀ a ∈ Ft', a ∈ Ft := by
  have dflt : ∀ d', it.sat s.ρ = some d' → d' = d → ∃ Ft', Good Γ cs H σ s.ρ s.μ T Fs Ft' ∧ RepE Γ.K Γ.mg cs (Fs ++ Ft' ++ cs ++ Γ.G) H v d ∧ ∀ a ∈ Ft', a ∈ Ft := fun d' h e => by
    subst e
    obtain ⟨F2, g2, r, _, hs⟩ := g.sat h
    exact ⟨F2, g2, .rep r, hs⟩
  have cell : ∀ k, it.sat s.ρ = some (.cell k) → (s.μ[k]?).map (D.lst false) = some d → ∃ Ft', Good Γ cs H σ s.ρ s.μ T Fs Ft' ∧ RepE Γ.K Γ.mg cs (Fs ++ Ft' ++ cs ++ Γ.G) H v d ∧ ∀ a ∈ Ft', a ∈ Ft := fun k h e => by
    obtain ⟨F2, g2, r, _, hs⟩ := g.sat h
    rw [Option.map_eq_some_iff] at e
    obtain ⟨ds, he, rfl⟩ := e
    cases r with
    | cell hc =>
      obtain ⟨xs, hx, rs⟩ := g2.cell hc he
      exact ⟨F2, g2, .lst hx rs, hs⟩
  cases it with
  | val d0 =>
    unfold It.sate at e
    split at e
    · rename_i h; cases h; exact cell _ rfl e
    · rename_i h; cases h; cases e; exact dflt _ rfl rfl
    · rename_i h; cases h
  | pk i =>
    simp only [It.sate] at e
    split at e
    · rename_i k q
      exact cell k (by simp only [It.sat, q]; rfl) e
    · rename_i ds q
      split at e
      · rename_i hf
        cases e
        obtain ⟨F2, g2, hs⟩ := g.popS
        have t := g.tm
        generalize hT : ((v, .pk i) :: T : Tmp) = T' at t
        cases t with
        | nil => cases hT
        | val r t => cases hT
        | @pk v1 i1 T1 g1 h t =>
          cases hT
          have e' : s.ρ[i]? = some (some (.lst true ds)) := by
            cases q' : s.ρ[i]? with
            | none => rw [q'] at q; cases q
            | some o => rw [q'] at q; exact congrArg some q
          obtain ⟨v', f, _, h1, r, _⟩ := g2.sl.out e'
          rw [h] at h1; cases h1
          cases r with
          | lstO hp rs =>
            have ef := rs.free hf
            subst ef
            exact ⟨F2, g2, .lst hp rs, hs⟩
      · cases e
    · rename_i d1 n1 n2 q
      split at e
      · rename_i hf
        cases e
        exact dflt _ (by
          simp only [It.sat, q]
          rw [if_pos hf]) rfl
      · cases e
    · cases e
/-- what an operation hands on: something known, a new list, a new tuple -/
inductive Out (K : PySem.W.Frag) (mg : Str → Option Value) (cs B : List Addr) (H : Hp) : D → V → Hp → Prop
  | old {v : V} {d : D} : Rep K mg cs B H v d [] → Out K mg cs B H d v H
  | lst {p : Addr} {vs : List V} {ds : List D} : H p = none → Reps K mg cs B H vs ds [] → Out K mg cs B H (.lst true ds) (.ref p) (upd H p (.lst vs))
  | tup {p : Addr} {vs : List V} {ds : List D} : H p = none → Reps K mg cs B H vs ds [] → Out K mg cs B H (.tup ds) (.ref p) (upd H p (.tup vs))
theorem Good.out {Γ : Gm} {cs : List Addr} {H H' : Hp} {σ : St} {ρ : Env} {μ : Cells} {T : Tmp} {Fs Ft : List Addr} {v : V} {d : D} (g : Good Γ cs H σ ρ μ T Fs Ft) (o : Out Γ.K Γ.mg cs (Fs ++ Ft ++ cs ++ Γ.G) H d v H') :
    ∃ Ft', Good Γ cs H' σ ρ μ ((v, .val d) :: T) Fs Ft' := by
  cases o with
  | old r => exact ⟨Ft, g.push0 r⟩
  | lst hp r => exact (g.pushs0 r).allocL r.length hp
  | tup hp r => exact ⟨Ft, (g.pushs0 r).allocT r.length hp⟩
/-- operations by values: looked at (I), taken (C) -/
def OpI (X : Cx) (r : R2) (op : D → D → Option D) : Prop :=
  ∀ (cs B : List Addr) (H : Hp) (x y : V) (d e z : D) (f g : List Addr) (Q : VK), Rep X.K X.mg cs B H x d f → Rep X.K X.mg cs B H y e g → op d e = some z → (∀ v, Scal v z → Q v H) → r x y H Q
def OpC (X : Cx) (r : R2) (op : D → D → Option D) : Prop :=
  ∀ (cs B : List Addr) (H : Hp) (x y : V) (d e z : D) (Q : VK), RepE X.K X.mg cs B H x d → RepE X.K X.mg cs B H y e → op d e = some z → (∀ v H', Out X.K X.mg cs B H z v H' → Q v H') → r x y H Q
def binI (op : D → D → Option D) (m n : M It) : M It := bnd m fun i => bnd n fun j s =>
  match i.ato s, j.ato s with
  | some d, some e => match op d e with
    | some z => some (.ok (.val z), s)
    | none => none
  | _, _ => none
def binC (op : D → D → Option D) (m n : M It) : M It := bnd m fun i => bnd n fun j s =>
  match i.sate s, j.sate s with
  | some d, some e => match op d e with
    | some z => some (.ok (.val z), s)
    | none => none
  | _, _ => none
theorem bin_I {r : R2} {op : D → D → Option D} (o : OpI X r op) {m n : M It} {σ : St} {H : Hp} {Q : VK} (h : TD X W (binI op m n) σ H Q) : tOp r (TD X W m) (TD X W n) σ H Q := by
  obtain ⟨Γ, cs, s, T, Fs, Ft, hK, hM, g, a⟩ := h
  refine TD.go hK hM g (a.bnd.mono fun i s1 a1 v1 H1 cs1 Fs1 Ft1 g1 => ?_)
  refine TD.go hK hM g1 (a1.bnd.push.mono fun j s2 a2 v2 H2 cs2 Fs2 Ft2 g2 => ?_)
  split at a2
  · rename_i d e h1 h2
    split at a2
    · rename_i z hz
      obtain ⟨f2, r2'⟩ := g2.looko h2
      obtain ⟨Ft3, g3⟩ := g2.pop
      obtain ⟨f1, r1'⟩ := g3.looko h1
      obtain ⟨Ft4, g4⟩ := g3.pop
      rw [hK, hM] at r1' r2'
      exact o cs2 [] H2 v1 v2 d e z f1 f2 Q r1' r2' hz fun v hv => a2 v H2 cs2 Fs2 Ft4 (g4.push0 hv.rep)
    · exact a2.elim
  · exact a2.elim
theorem bin_C {r : R2} {op : D → D → Option D} (o : OpC X r op) {m n : M It} {σ : St} {H : Hp} {Q : VK} (h : TD X W (binC op m n) σ H Q) : tOp r (TD X W m) (TD X W n) σ H Q := by
  obtain ⟨Γ, cs, s, T, Fs, Ft, hK, hM, g, a⟩ := h
  refine TD.go hK hM g (a.bnd.mono fun i s1 a1 v1 H1 cs1 Fs1 Ft1 g1 => ?_)
  refine TD.go hK hM g1 (a1.bnd.push.mono fun j s2 a2 v2 H2 cs2 Fs2 Ft2 g2 => ?_)
  split at a2
  · rename_i d e h1 h2
    split at a2
    · rename_i z hz
      obtain ⟨Ft3, g3, r2, _⟩ := g2.sate h2
      obtain ⟨Ft4, g4, r1, hs⟩ := g3.sate h1
      have r2' : RepE Γ.K Γ.mg cs2 (Fs2 ++ Ft4 ++ cs2 ++ Γ.G) H2 v2 e := r2.less (ban hs)
      rw [hK, hM] at r1 r2'
      exact o cs2 _ H2 v1 v2 d e z Q r1 r2' hz fun v H' hv => by
        rw [← hK, ← hM] at hv
        obtain ⟨Ft5, g5⟩ := g4.out hv
        exact a2 v H' cs2 Fs2 Ft5 g5
    · exact a2.elim
  · exact a2.elim
end
end DL
namespace DL
open PySem L2
section
variable {X : Cx} {W : WX}
theorem TB.go {Γ : Gm} {m : M Bool} {σ : St} {H : Hp} {cs Fs Ft : List Addr} {s : Sg} {T : Tmp} {Q : Bool → Hp → Prop} (hK : Γ.K = X.K) (hM : Γ.mg = X.mg) (g : Good Γ cs H σ s.ρ s.μ T Fs Ft)
    (a : After W Γ σ T (fun b s' => ∀ H' cs' Fs' Ft', Good Γ cs' H' σ s'.ρ s'.μ T Fs' Ft' → Q b H') (m s)) : TB X W m σ H Q := ⟨Γ, cs, s, T, Fs, Ft, hK, hM, g, a⟩
theorem TAs.go {Γ : Gm} {m : M (List It)} {σ : St} {H : Hp} {cs Fs Ft : List Addr} {s : Sg} {T : Tmp} {Q : List V → Hp → Prop} (hK : Γ.K = X.K) (hM : Γ.mg = X.mg) (g : Good Γ cs H σ s.ρ s.μ T Fs Ft)
    (a : After W Γ σ T (fun its s' => ∀ vs H' cs' Fs' Ft', vs.length = its.length → Good Γ cs' H' σ s'.ρ s'.μ (List.zip vs its ++ T) Fs' Ft' → Q vs H') (m s)) : TAs X W m σ H Q := ⟨Γ, cs, s, T, Fs, Ft, hK, hM, g, a⟩
theorem Scal.of_rep {K : PySem.W.Frag} {mg : Str → Option Value} {cs B : List Addr} {H : Hp} {v : V} {b : Bool} {f : List Addr} (r : Rep K mg cs B H v (.bool b) f) : v = .bl b := by cases r; rfl
/-! ### tests -/
/-- a value that is a bool, as a test -/
def tst (m : M It) : M Bool := bnd m fun i s =>
  match i.at s.ρ with
  | some (.bool b) => some (.ok b, s)
  | _ => none
theorem tst_go {m : M It} {σ : St} {H : Hp} {Q : Bool → Hp → Prop} (h : TB X W (tst m) σ H Q) : TD X W m σ H fun x H1 => ∃ c, x = .bl c ∧ Q c H1 := by
  obtain ⟨Γ, cs, s, T, Fs, Ft, hK, hM, g, a⟩ := h
  refine TD.go hK hM g (a.bnd.mono fun i s1 a1 v1 H1 cs1 Fs1 Ft1 g1 => ?_)
  split at a1
  · rename_i b e
    obtain ⟨f, r⟩ := g1.look e
    obtain ⟨Ft2, g2⟩ := g1.pop
    exact ⟨b, Scal.of_rep r, a1 H1 cs1 Fs1 Ft2 g2⟩
  · exact a1.elim
theorem tV {e : Expr} {m : M It} (h : PE X e (TD X W m)) (he : ∀ whole, isTrue e X.env whole = (do let v ← whole; standAt e.pos; holding [v] (truthy v)) := by intro _; rfl) : PT X e (TB X W (tst m)) :=
  PT.imp (pt_val h he) fun σ H Q q => tst_go q
/-- a comparison as a test; as a value -/
theorem tI {op : CmpOp} {a b : Expr} {r : R2} {o : D → D → Option D} {m n : M It} {pos : Pos} (ho : OpR X (compareOp op) r) (od : OpI X r o) (ha : PE X a (TD X W m)) (hb : PE X b (TD X W n)) (hm : behindInMarks op b = false := by first | exact nomark _ | rfl) :
    PT X (.Compare a [op] [b] pos) (TB X W (tst (binI o m n))) :=
  PT.imp (pt_cmpR ho ha hb hm) fun σ H Q q => tOp_mono (bin_I od (tst_go q))
where
  tOp_mono {r : R2} {ta tb : TE} {σ : St} {H : Hp} {Q : Bool → Hp → Prop} (h : tOp r ta tb σ H fun x H1 => ∃ c, x = .bl c ∧ Q c H1) : tTest (tOp r ta tb) σ H Q := h
theorem dI {op : CmpOp} {a b : Expr} {r : R2} {o : D → D → Option D} {m n : M It} {pos : Pos} (ho : OpR X (compareOp op) r) (od : OpI X r o) (ha : PE X a (TD X W m)) (hb : PE X b (TD X W n)) (hm : behindInMarks op b = false := by first | exact nomark _ | rfl) :
    PE X (.Compare a [op] [b] pos) (TD X W (binI o m n)) :=
  PE.imp (pe_cmpR ho ha hb hm) fun σ H Q q => bin_I od q
theorem dO {op : Operator} {a b : Expr} {r : R2} {o : D → D → Option D} {m n : M It} {pos : Pos} (ho : OpR X (binaryOp op) r) (od : OpC X r o) (ha : PE X a (TD X W m)) (hb : PE X b (TD X W n)) :
    PE X (.BinOp a op b pos) (TD X W (binC o m n)) := PE.imp (pe_op ho ha hb) fun σ H Q q => bin_C od q
/-- not, and, or as tests -/
def notB (m : M Bool) : M Bool := bnd m fun b => ret (!b)
def andB (m n : M Bool) : M Bool := bnd m fun b => if b then n else ret false
def orB (m n : M Bool) : M Bool := bnd m fun b => if b then ret true else n
theorem tN {a : Expr} {m : M Bool} {pos : Pos} (h : PT X a (TB X W m)) : PT X (.UnaryOp .Not a pos) (TB X W (notB m)) :=
  PT.imp (pt_not h) fun σ H Q ⟨Γ, cs, s, T, Fs, Ft, hK, hM, g, a⟩ => TB.go hK hM g (a.bnd.mono fun b s1 a1 => a1)
theorem wA1 {a : Expr} {m : M Bool} {pos : Pos} (h : PT X a (TB X W m)) : PW X (.BoolOp .And [a] pos) (TB X W m) := pw_and1 h
theorem wO1 {a : Expr} {m : M Bool} {pos : Pos} (h : PT X a (TB X W m)) : PW X (.BoolOp .Or [a] pos) (TB X W m) := pw_or1 h
theorem PW.imp {X : Cx} {e : Expr} {t u : TT} (h : PW X e t) (k : ∀ σ H Q, u σ H Q → t σ H Q) : PW X e u := ⟨fun wh pins s σ H Q I q => h.run wh pins s σ H Q I (k σ H Q q)⟩
theorem wA {a b : Expr} {rest : List Expr} {m n : M Bool} {pos : Pos} (h : PT X a (TB X W m)) (k : PW X (.BoolOp .And (b :: rest) pos) (TB X W n)) : PW X (.BoolOp .And (a :: b :: rest) pos) (TB X W (andB m n)) :=
  PW.imp (pw_and h k) fun σ H Q ⟨Γ, cs, s, T, Fs, Ft, hK, hM, g, a⟩ => TB.go hK hM g (a.bnd.mono fun b s1 a1 H1 cs1 Fs1 Ft1 g1 => by
    cases b with
    | true => exact TB.go hK hM g1 a1
    | false => exact a1 H1 cs1 Fs1 Ft1 g1)
theorem wO {a b : Expr} {rest : List Expr} {m n : M Bool} {pos : Pos} (h : PT X a (TB X W m)) (k : PW X (.BoolOp .Or (b :: rest) pos) (TB X W n)) : PW X (.BoolOp .Or (a :: b :: rest) pos) (TB X W (orB m n)) :=
  PW.imp (pw_or h k) fun σ H Q ⟨Γ, cs, s, T, Fs, Ft, hK, hM, g, a⟩ => TB.go hK hM g (a.bnd.mono fun b s1 a1 H1 cs1 Fs1 Ft1 g1 => by
    cases b with
    | false => exact TB.go hK hM g1 a1
    | true => exact a1 H1 cs1 Fs1 Ft1 g1)
/-- .. as values -/
def notV (m : M It) : M It := bnd (tst m) fun b => ret (.val (.bool (!b)))
def andV (m n : M It) : M It := bnd (tst m) fun b => if b then n else ret (.val (.bool false))
def orV (m n : M It) : M It := bnd (tst m) fun b => if b then ret (.val (.bool true)) else n
theorem tst_bnd {α : Type} {m : M It} {k : Bool → M α} {Γ : Gm} {σ : St} {T : Tmp} {P : α → Sg → Prop} {s : Sg} (h : After W Γ σ T P (bnd (tst m) k s)) :
    After W Γ σ T (fun i s1 => ∃ b, i.at s1.ρ = some (.bool b) ∧ After W Γ σ T P (k b s1)) (m s) := by
  have h1 := h.bnd
  unfold tst at h1
  refine h1.bnd.mono fun i s1 a1 => ?_
  split at a1
  · rename_i b e; exact ⟨b, e, a1⟩
  · exact a1.elim
theorem dN {a : Expr} {m : M It} {pos : Pos} (h : PE X a (TD X W m)) : PE X (.UnaryOp .Not a pos) (TD X W (notV m)) :=
  PE.imp (pe_not h) fun σ H Q ⟨Γ, cs, s, T, Fs, Ft, hK, hM, g, a⟩ => TD.go hK hM g ((tst_bnd a).mono fun i s1 ⟨b, e, a1⟩ v1 H1 cs1 Fs1 Ft1 g1 => by
    obtain ⟨f, r⟩ := g1.look e
    obtain ⟨Ft2, g2⟩ := g1.pop
    exact ⟨b, Scal.of_rep r, a1 _ H1 cs1 Fs1 Ft2 (g2.push0 (Scal.bool _).rep)⟩)
theorem d1 {op : BoolOp} {a : Expr} {m : M It} {pos : Pos} (h : PE X a (TD X W m)) : PE X (.BoolOp op [a] pos) (TD X W m) := pe_one h
theorem dA {a b : Expr} {rest : List Expr} {m n : M It} {pos : Pos} (h : PE X a (TD X W m)) (k : PE X (.BoolOp .And (b :: rest) pos) (TD X W n)) : PE X (.BoolOp .And (a :: b :: rest) pos) (TD X W (andV m n)) :=
  PE.imp (pe_and h k) fun σ H Q ⟨Γ, cs, s, T, Fs, Ft, hK, hM, g, a⟩ => TD.go hK hM g ((tst_bnd a).mono fun i s1 ⟨b, e, a1⟩ v1 H1 cs1 Fs1 Ft1 g1 => by
    obtain ⟨f, r⟩ := g1.look e
    obtain ⟨Ft2, g2⟩ := g1.pop
    refine ⟨b, Scal.of_rep r, ?_⟩
    cases b with
    | true => exact TD.go hK hM g2 a1
    | false => exact a1 _ H1 cs1 Fs1 Ft2 (g2.push0 (Scal.bool _).rep))
theorem dOr {a b : Expr} {rest : List Expr} {m n : M It} {pos : Pos} (h : PE X a (TD X W m)) (k : PE X (.BoolOp .Or (b :: rest) pos) (TD X W n)) : PE X (.BoolOp .Or (a :: b :: rest) pos) (TD X W (orV m n)) :=
  PE.imp (pe_or h k) fun σ H Q ⟨Γ, cs, s, T, Fs, Ft, hK, hM, g, a⟩ => TD.go hK hM g ((tst_bnd a).mono fun i s1 ⟨b, e, a1⟩ v1 H1 cs1 Fs1 Ft1 g1 => by
    obtain ⟨f, r⟩ := g1.look e
    obtain ⟨Ft2, g2⟩ := g1.pop
    refine ⟨b, Scal.of_rep r, ?_⟩
    cases b with
    | false => exact TD.go hK hM g2 a1
    | true => exact a1 _ H1 cs1 Fs1 Ft2 (g2.push0 (Scal.bool _).rep))
/-- a if t else b -/
def ifV (t : M Bool) (m n : M It) : M It := bnd t fun b => if b then m else n
theorem dIf {c a b : Expr} {t : M Bool} {m n : M It} {pos : Pos} (hc : PT X c (TB X W t)) (ha : PE X a (TD X W m)) (hb : PE X b (TD X W n)) : PE X (.IfExp c a b pos) (TD X W (ifV t m n)) :=
  PE.imp (pe_ifExp hc ha hb) fun σ H Q ⟨Γ, cs, s, T, Fs, Ft, hK, hM, g, a⟩ => TB.go hK hM g (a.bnd.mono fun b s1 a1 H1 cs1 Fs1 Ft1 g1 => by
    cases b with
    | true => exact TD.go hK hM g1 a1
    | false => exact TD.go hK hM g1 a1)
/-- a < b < c: b is asked once -/
def fin1 (p : D → Option D) (k : It) : M It := fun s =>
  match k.ato s with
  | some f => match p f with
    | some z => some (.ok (.val z), s)
    | none => none
  | none => none
def chn (o p : D → D → Option D) (m n q : M It) : M It := bnd m fun i => bnd n fun j s =>
  match i.ato s, j.at s.ρ with
  | some d, some e => match o d e, e.free with
    | some (.bool true), true => bnd q (fin1 (p e)) s
    | some (.bool false), _ => some (.ok (.val (.bool false)), s)
    | _, _ => none
  | _, _ => none
theorem chn_go {r r' : R2} {o p : D → D → Option D} (od : OpI X r o) (od' : OpI X r' p) {m n q : M It} {σ : St} {H : Hp} {Q : VK} (h : TD X W (chn o p m n q) σ H Q) : tChain r r' (TD X W m) (TD X W n) (TD X W q) σ H Q := by
  obtain ⟨Γ, cs, s, T, Fs, Ft, hK, hM, g, a⟩ := h
  refine TD.go hK hM g (a.bnd.mono fun i s1 a1 v1 H1 cs1 Fs1 Ft1 g1 => ?_)
  refine TD.go hK hM g1 (a1.bnd.push.mono fun j s2 a2 v2 H2 cs2 Fs2 Ft2 g2 => ?_)
  split at a2
  · rename_i d e h1 h2
    obtain ⟨f2, r2⟩ := g2.look h2
    obtain ⟨Ft3, g3, s3⟩ := g2.popS
    obtain ⟨f1, r1'⟩ := g3.looko h1
    obtain ⟨Ft4, g4, s4⟩ := g3.popS
    have r2' := r2.loose
    rw [hK, hM] at r1' r2'
    split at a2
    · rename_i hz hf
      refine od cs2 [] H2 v1 v2 d e _ f1 f2 _ r1' r2' hz fun v hv => ?_
      cases hv
      refine ⟨true, rfl, ?_⟩
      rw [if_pos rfl]
      have e2 := r2.free hf
      subst e2
      have g5 : Good Γ cs2 H2 σ s2.ρ s2.μ ((v2, .val e) :: T) Fs2 Ft4 := g4.push0 (r2.less (ban fun a h => s3 a (s4 a h)))
      refine TD.go hK hM g5 (a2.bnd.push.mono fun k s6 a6 v6 H6 cs6 Fs6 Ft6 g6 => ?_)
      unfold fin1 at a6
      split at a6
      · rename_i f3 h3
        split at a6
        · rename_i z hz'
          obtain ⟨f6, r6'⟩ := g6.looko h3
          obtain ⟨Ft7, g7⟩ := g6.pop
          obtain ⟨f7, r7⟩ := g7.look (d := e) rfl
          obtain ⟨Ft8, g8⟩ := g7.pop
          have r7' := r7.loose
          rw [hK, hM] at r6' r7'
          exact od' cs6 [] H6 v2 v6 e f3 z f7 f6 Q r7' r6' hz' fun v hv => a6 v H6 cs6 Fs6 Ft8 (g8.push0 hv.rep)
        · exact a6.elim
      · exact a6.elim
    · rename_i hz
      refine od cs2 [] H2 v1 v2 d e _ f1 f2 _ r1' r2' hz fun v hv => ?_
      cases hv
      refine ⟨false, rfl, ?_⟩
      rw [if_neg Bool.false_ne_true]
      exact a2 _ H2 cs2 Fs2 Ft4 (g4.push0 (Scal.bool _).rep)
    · exact a2.elim
  · exact a2.elim
theorem dCh {op op' : CmpOp} {a b c : Expr} {r r' : R2} {o p : D → D → Option D} {m n q : M It} {pos : Pos} (ho : OpR X (compareOp op) r) (od : OpI X r o) (ho' : OpR X (compareOp op') r') (od' : OpI X r' p)
    (ha : PE X a (TD X W m)) (hb : PE X b (TD X W n)) (hc : PE X c (TD X W q)) (h : PE X (.Compare a [op, op'] [b, c] pos) (tChain r r' (TD X W m) (TD X W n) (TD X W q))) : PE X (.Compare a [op, op'] [b, c] pos) (TD X W (chn o p m n q)) :=
  PE.imp h fun σ H Q q => chn_go od od' q
theorem tCh {op op' : CmpOp} {a b c : Expr} {r r' : R2} {o p : D → D → Option D} {m n q : M It} {pos : Pos} (od : OpI X r o) (od' : OpI X r' p)
    (h : PT X (.Compare a [op, op'] [b, c] pos) (tTest (tChain r r' (TD X W m) (TD X W n) (TD X W q)))) : PT X (.Compare a [op, op'] [b, c] pos) (TB X W (tst (chn o p m n q))) :=
  PT.imp h fun σ H Q q => chn_go od od' (tst_go q)
/-! ### arguments, displays -/
def args0 : M (List It) := ret []
def argsC (m : M It) (n : M (List It)) : M (List It) := bnd m fun i => bnd n fun l => ret (i :: l)
theorem a0 : PA X [] (TAs X W args0) := PA.imp pa_nil fun σ H Q ⟨Γ, cs, s, T, Fs, Ft, hK, hM, g, a⟩ => a [] H cs Fs Ft rfl g
/-- temps in another order -/
theorem Temps.perm {K : PySem.W.Frag} {mg : Str → Option Value} {cs B : List Addr} {H : Hp} {σ : St} {T U : Tmp} (p : T.Perm U) : ∀ {F : List Addr}, Temps K mg cs B H σ T F → ∃ F', Temps K mg cs B H σ U F' ∧ ∀ a, F.count a = F'.count a := by
  induction p with
  | nil => intro F h; exact ⟨F, h, fun _ => rfl⟩
  | @cons x l l' p ih =>
    intro F h
    cases h with
    | pk e t => obtain ⟨F', t', hc⟩ := ih t; exact ⟨F', .pk e t', hc⟩
    | val r t =>
      obtain ⟨F', t', hc⟩ := ih t
      exact ⟨_, .val r t', fun a => by have := hc a; simp only [List.count_append]; omega⟩
  | @swap x y l =>
    intro F h
    cases h with
    | pk e t => cases t with
      | pk e2 t2 => exact ⟨_, .pk e2 (.pk e t2), fun _ => rfl⟩
      | val r2 t2 => exact ⟨_, .val r2 (.pk e t2), fun _ => rfl⟩
    | val r t => cases t with
      | pk e2 t2 => exact ⟨_, .pk e2 (.val r t2), fun _ => rfl⟩
      | val r2 t2 => exact ⟨_, .val r2 (.val r t2), fun a => by simp only [List.count_append]; omega⟩
  | trans _ _ ih1 ih2 =>
    intro F h
    obtain ⟨F1, h1, c1⟩ := ih1 h
    obtain ⟨F2, h2, c2⟩ := ih2 h1
    exact ⟨F2, h2, fun a => (c1 a).trans (c2 a)⟩
theorem Good.perm {Γ : Gm} {cs : List Addr} {H : Hp} {σ : St} {ρ : Env} {μ : Cells} {T U : Tmp} {Fs Ft : List Addr} (g : Good Γ cs H σ ρ μ T Fs Ft) (p : T.Perm U) : ∃ Ft', Good Γ cs H σ ρ μ U Fs Ft' := by
  obtain ⟨F', t, hc⟩ := Temps.perm p g.tm
  refine ⟨F', Good.mk0 g.sl t g.ce (fun a h => ?_) (fun a => ?_) g.kp (fun a h => ?_) g.c1 g.c2 g.g0⟩
  · have := hc a
    simp only [List.mem_append, memc] at h ⊢
    omega
  · have := hc a; have := g.nd a; omega
  · refine g.fr a ?_
    have := hc a
    simp only [memc] at h ⊢
    omega
theorem aC {e : Expr} {es : List Expr} {m : M It} {n : M (List It)} (h : PE X e (TD X W m)) (k : PA X es (TAs X W n)) (hs : starEach (e :: es) X.env = (false, eval e X.env) :: starEach es X.env := by rfl) : PA X (e :: es) (TAs X W (argsC m n)) :=
  PA.imp (pa_cons h k hs) fun σ H Q ⟨Γ, cs, s, T, Fs, Ft, hK, hM, g, a⟩ => TD.go hK hM g (a.bnd.mono fun i s1 a1 v1 H1 cs1 Fs1 Ft1 g1 =>
    TAs.go hK hM g1 (a1.bnd.push.mono fun l s2 a2 vs H2 cs2 Fs2 Ft2 hl g2 => by
      obtain ⟨Ft3, g3⟩ := g2.perm (U := (v1, i) :: (List.zip vs l ++ T)) (List.perm_middle)
      exact a2 (v1 :: vs) H2 cs2 Fs2 Ft3 (by simp [hl]) g3))
/-- all of them in hand -/
def vals? : List It → Option (List D)
  | [] => some []
  | .val d :: r => (vals? r).map (d :: ·)
  | .pk _ :: _ => none
theorem vals_eq : ∀ {its : List It} {ds : List D}, vals? its = some ds → its = ds.map It.val
  | [], ds, h => by cases h; rfl
  | .val d :: r, ds, h => by
    simp only [vals?, Option.map_eq_some_iff] at h
    obtain ⟨l, h1, rfl⟩ := h
    rw [vals_eq h1]; rfl
  | .pk _ :: _, _, h => by cases h
def dspL (m : M (List It)) : M It := bnd m fun l s =>
  match vals? l with
  | some ds => if ds.length ≤ sizeLine then some (.ok (.val (.lst true ds)), s) else none
  | none => none
def dspT (m : M (List It)) : M It := bnd m fun l s =>
  match vals? l with
  | some ds => if ds.length ≤ sizeLine then some (.ok (.val (.tup ds)), s) else none
  | none => none
theorem dL {es : List Expr} {m : M (List It)} {pos : Pos} (h : PA X es (TAs X W m)) : PE X (.List es pos) (TD X W (dspL m)) :=
  PE.imp (pe_lst h) fun σ H Q ⟨Γ, cs, s, T, Fs, Ft, hK, hM, g, a⟩ => TAs.go hK hM g (a.bnd.mono fun l s1 a1 vs H1 cs1 Fs1 Ft1 hl g1 => by
    split at a1
    · rename_i ds e
      have e' := vals_eq e
      subst e'
      have hl' : vs.length = ds.length := by simpa using hl
      split at a1
      · rename_i hz
        refine ⟨by rw [hl']; exact hz, fun p hp => ?_⟩
        obtain ⟨Ft2, g2⟩ := g1.allocL hl' hp
        exact a1 _ _ cs1 Fs1 Ft2 g2
      · exact a1.elim
    · exact a1.elim)
theorem dT {es : List Expr} {m : M (List It)} {x1} {pos : Pos} (h : PA X es (TAs X W m)) : PE X (.Tuple es x1 pos) (TD X W (dspT m)) :=
  PE.imp (pe_tup h) fun σ H Q ⟨Γ, cs, s, T, Fs, Ft, hK, hM, g, a⟩ => TAs.go hK hM g (a.bnd.mono fun l s1 a1 vs H1 cs1 Fs1 Ft1 hl g1 => by
    split at a1
    · rename_i ds e
      have e' := vals_eq e
      subst e'
      have hl' : vs.length = ds.length := by simpa using hl
      split at a1
      · rename_i hz
        refine ⟨by rw [hl']; exact hz, fun p hp => ?_⟩
        exact a1 _ _ cs1 Fs1 Ft1 (g1.allocT hl' hp)
      · exact a1.elim
    · exact a1.elim)
end
end DL
namespace DL
open PySem L2
/-! ### several operands -/
def atAll (s : Sg) : List It → Option (List D)
  | [] => some []
  | i :: r => match i.ato s, atAll s r with
    | some d, some ds => some (d :: ds)
    | _, _ => none
def satAll (ρ : Env) : List It → Option (List D)
  | [] => some []
  | i :: r => match i.sat ρ, satAll ρ r with
    | some d, some ds => some (d :: ds)
    | _, _ => none
def sateAll (s : Sg) : List It → Option (List D)
  | [] => some []
  | i :: r => match i.sate s, sateAll s r with
    | some d, some ds => some (d :: ds)
    | _, _ => none
inductive RepEs (K : PySem.W.Frag) (mg : Str → Option Value) (cs B : List Addr) (H : Hp) : List V → List D → Prop
  | nil : RepEs K mg cs B H [] []
  | cons {v : V} {d : D} {vs : List V} {ds : List D} : RepE K mg cs B H v d → RepEs K mg cs B H vs ds → RepEs K mg cs B H (v :: vs) (d :: ds)
section
variable {Γ : Gm} {cs : List Addr} {H : Hp} {σ : St} {ρ : Env} {μ : Cells} {T : Tmp} {Fs Ft : List Addr}
theorem Good.sateAll {s : Sg} : ∀ {its : List It} {vs : List V} {Ft : List Addr} {ds : List D}, vs.length = its.length → Good Γ cs H σ s.ρ s.μ (List.zip vs its ++ T) Fs Ft → DL.sateAll s its = some ds →
    ∃ Ft', Good Γ cs H σ s.ρ s.μ T Fs Ft' ∧ RepEs Γ.K Γ.mg cs (Fs ++ Ft' ++ cs ++ Γ.G) H vs ds ∧ ∀ a ∈ Ft', a ∈ Ft
  | [], vs, Ft, ds, hl, g, e => by
    have : vs = [] := by simpa using hl
    subst this
    cases e
    exact ⟨Ft, g, .nil, fun _ h => h⟩
  | i :: its, [], Ft, ds, hl, g, e => by simp at hl
  | i :: its, v :: vs, Ft, ds, hl, g, e => by
    unfold DL.sateAll at e
    split at e
    · rename_i d ds' h1 h2
      cases e
      obtain ⟨F1, g1, r1, s1⟩ := Good.sate (it := i) (v := v) g h1
      obtain ⟨F2, g2, r2, s2⟩ := Good.sateAll (by simpa using hl) g1 h2
      exact ⟨F2, g2, .cons (r1.less (ban s2)) r2, fun a h => s1 a (s2 a h)⟩
    · cases e
theorem Good.popAll : ∀ {its : List It} {vs : List V} {Ft : List Addr}, vs.length = its.length → Good Γ cs H σ ρ μ (List.zip vs its ++ T) Fs Ft → ∃ Ft', Good Γ cs H σ ρ μ T Fs Ft' ∧ ∀ a ∈ Ft', a ∈ Ft
  | [], vs, Ft, hl, g => by
    have : vs = [] := by simpa using hl
    subst this
    exact ⟨Ft, g, fun _ h => h⟩
  | i :: its, [], Ft, hl, g => by simp at hl
  | i :: its, v :: vs, Ft, hl, g => by
    obtain ⟨F1, g1, s1⟩ := Good.popS (it := i) (v := v) g
    obtain ⟨F2, g2, s2⟩ := Good.popAll (by simpa using hl) g1
    exact ⟨F2, g2, fun a h => s1 a (s2 a h)⟩
theorem Good.lookAll {s : Sg} : ∀ {its : List It} {vs : List V} {Ft : List Addr} {ds : List D}, vs.length = its.length → Good Γ cs H σ s.ρ s.μ (List.zip vs its ++ T) Fs Ft → atAll s its = some ds → ∃ f, Reps Γ.K Γ.mg cs [] H vs ds f
  | [], vs, Ft, ds, hl, g, e => by
    have : vs = [] := by simpa using hl
    subst this
    cases e
    exact ⟨[], .nil⟩
  | i :: its, [], Ft, ds, hl, g, e => by simp at hl
  | i :: its, v :: vs, Ft, ds, hl, g, e => by
    unfold atAll at e
    split at e
    · rename_i d ds' h1 h2
      cases e
      obtain ⟨f1, r1⟩ := Good.looko (it := i) (v := v) g h1
      obtain ⟨F1, g1, s1⟩ := Good.popS (it := i) (v := v) g
      obtain ⟨f2, r2⟩ := Good.lookAll (by simpa using hl) g1 h2
      exact ⟨_, .cons r1 r2⟩
    · cases e
theorem Reps.less {K : PySem.W.Frag} {mg : Str → Option Value} {cs B B' : List Addr} {H : Hp} {v : List V} {d : List D} (r : Reps K mg cs B H v d []) (h : ∀ a ∈ B', a ∈ B) : Reps K mg cs B' H v d [] :=
  r.on (W := []) (B' := B') (Stp.refl H B) (fun _ _ e => e) (fun a ha => .inl (h a ha)) fun _ h => nomatch h
theorem Good.satAll : ∀ {its : List It} {vs : List V} {Ft : List Addr} {ds : List D}, vs.length = its.length → Good Γ cs H σ ρ μ (List.zip vs its ++ T) Fs Ft → satAll ρ its = some ds →
    ∃ Ft', Good Γ cs H σ ρ μ T Fs Ft' ∧ Reps Γ.K Γ.mg cs (Fs ++ Ft' ++ cs ++ Γ.G) H vs ds [] ∧ D.frees ds = true ∧ ∀ a ∈ Ft', a ∈ Ft
  | [], vs, Ft, ds, hl, g, e => by
    have : vs = [] := by simpa using hl
    subst this
    cases e
    exact ⟨Ft, g, .nil, rfl, fun _ h => h⟩
  | i :: its, [], Ft, ds, hl, g, e => by simp at hl
  | i :: its, v :: vs, Ft, ds, hl, g, e => by
    unfold DL.satAll at e
    split at e
    · rename_i d ds' h1 h2
      cases e
      obtain ⟨F1, g1, r1, f1, s1⟩ := Good.sat (it := i) (v := v) g h1
      obtain ⟨F2, g2, r2, f2, s2⟩ := Good.satAll (by simpa using hl) g1 h2
      exact ⟨F2, g2, .cons (f := []) (g := []) (r1.less (ban s2)) r2, by simp only [D.frees, f1, f2]; rfl, fun a h => s1 a (s2 a h)⟩
    · cases e
end
/-! ### calls of built-ins -/
section
variable {X : Cx} {W : WX}
def ClI (X : Cx) (r : List V → Hp → VK → Prop) (op : List D → Option D) : Prop :=
  ∀ (cs : List Addr) (H : Hp) (xs : List V) (ds : List D) (z : D) (f : List Addr) (Q : VK), Reps X.K X.mg cs [] H xs ds f → op ds = some z → (∀ v, Scal v z → Q v H) → r xs H Q
def ClC (X : Cx) (r : List V → Hp → VK → Prop) (op : List D → Option D) : Prop :=
  ∀ (cs B : List Addr) (H : Hp) (xs : List V) (ds : List D) (z : D) (Q : VK), RepEs X.K X.mg cs B H xs ds → op ds = some z → (∀ v H', Out X.K X.mg cs B H z v H' → Q v H') → r xs H Q
def cliI (op : List D → Option D) (m : M (List It)) : M It := bnd m fun l s =>
  match atAll s l with
  | some ds => match op ds with
    | some z => some (.ok (.val z), s)
    | none => none
  | none => none
def cliC (op : List D → Option D) (m : M (List It)) : M It := bnd m fun l s =>
  match sateAll s l with
  | some ds => match op ds with
    | some z => some (.ok (.val z), s)
    | none => none
  | none => none
theorem cli_I {r : List V → Hp → VK → Prop} {op : List D → Option D} (o : ClI X r op) {m : M (List It)} {σ : St} {H : Hp} {Q : VK} (h : TD X W (cliI op m) σ H Q) : tCB r (TAs X W m) σ H Q := by
  obtain ⟨Γ, cs, s, T, Fs, Ft, hK, hM, g, a⟩ := h
  refine TAs.go hK hM g (a.bnd.mono fun l s1 a1 vs H1 cs1 Fs1 Ft1 hl g1 => ?_)
  split at a1
  · rename_i ds h1
    split at a1
    · rename_i z hz
      obtain ⟨f, r⟩ := Good.lookAll hl g1 h1
      obtain ⟨F2, g2, _⟩ := Good.popAll hl g1
      rw [hK, hM] at r
      exact o cs1 H1 vs ds z f Q r hz fun v hv => a1 v H1 cs1 Fs1 F2 (g2.push0 hv.rep)
    · exact a1.elim
  · exact a1.elim
theorem cli_C {r : List V → Hp → VK → Prop} {op : List D → Option D} (o : ClC X r op) {m : M (List It)} {σ : St} {H : Hp} {Q : VK} (h : TD X W (cliC op m) σ H Q) : tCB r (TAs X W m) σ H Q := by
  obtain ⟨Γ, cs, s, T, Fs, Ft, hK, hM, g, a⟩ := h
  refine TAs.go hK hM g (a.bnd.mono fun l s1 a1 vs H1 cs1 Fs1 Ft1 hl g1 => ?_)
  split at a1
  · rename_i ds h1
    split at a1
    · rename_i z hz
      obtain ⟨F2, g2, r, _⟩ := Good.sateAll hl g1 h1
      rw [hK, hM] at r
      exact o cs1 _ H1 vs ds z Q r hz fun v H' hv => by
        rw [← hK, ← hM] at hv
        obtain ⟨F3, g3⟩ := g2.out hv
        exact a1 v H' cs1 Fs1 F3 g3
    · exact a1.elim
  · exact a1.elim
theorem dBI {x : Str} {p pos : Pos} {e : Expr} {es : List Expr} {id : String} {r : List V → Hp → VK → Prop} {op : List D → Option D} {m : M (List It)} (o : ClI X r op) (hc : CallR X (.builtin id) r) (hg : Gl X x) (hm : X.mg x = none) (hv : bootBuiltins x = some (.builtin id)) (ha : PA X (e :: es) (TAs X W m)) (hn : x ≠ "__name__" := by decide) (hdb : (x == ("__debug__" : Str)) = false := by decide)
    (he : starEach (e :: es) X.env = (false, eval e X.env) :: starEach es X.env := by rfl) (hpl : (backTo pos (starEach es X.env)).any (·.1) = false := by rfl) : PE X (.Call (.Name x p) (e :: es) [] pos) (TD X W (cliI op m)) :=
  PE.imp (pe_callB hc hg hm hv ha hn hdb he hpl) fun σ H Q q => cli_I o q
theorem dBC {x : Str} {p pos : Pos} {e : Expr} {es : List Expr} {id : String} {r : List V → Hp → VK → Prop} {op : List D → Option D} {m : M (List It)} (o : ClC X r op) (hc : CallR X (.builtin id) r) (hg : Gl X x) (hm : X.mg x = none) (hv : bootBuiltins x = some (.builtin id)) (ha : PA X (e :: es) (TAs X W m)) (hn : x ≠ "__name__" := by decide) (hdb : (x == ("__debug__" : Str)) = false := by decide)
    (he : starEach (e :: es) X.env = (false, eval e X.env) :: starEach es X.env := by rfl) (hpl : (backTo pos (starEach es X.env)).any (·.1) = false := by rfl) : PE X (.Call (.Name x p) (e :: es) [] pos) (TD X W (cliC op m)) :=
  PE.imp (pe_callB hc hg hm hv ha hn hdb he hpl) fun σ H Q q => cli_C o q
theorem dYI {x : Str} {p pos : Pos} {e : Expr} {es : List Expr} {T : String} {r : List V → Hp → VK → Prop} {op : List D → Option D} {m : M (List It)} (o : ClI X r op) (hc : CallR X (.type T) r) (hg : Gl X x) (hm : X.mg x = none) (hv : bootBuiltins x = some (.type T)) (ha : PA X (e :: es) (TAs X W m)) (hn : x ≠ "__name__" := by decide) (hdb : (x == ("__debug__" : Str)) = false := by decide)
    (he : starEach (e :: es) X.env = (false, eval e X.env) :: starEach es X.env := by rfl) (hpl : (backTo pos (starEach es X.env)).any (·.1) = false := by rfl) : PE X (.Call (.Name x p) (e :: es) [] pos) (TD X W (cliI op m)) :=
  PE.imp (pe_callTy hc hg hm hv ha hn hdb he hpl) fun σ H Q q => cli_I o q
theorem dYC {x : Str} {p pos : Pos} {e : Expr} {es : List Expr} {T : String} {r : List V → Hp → VK → Prop} {op : List D → Option D} {m : M (List It)} (o : ClC X r op) (hc : CallR X (.type T) r) (hg : Gl X x) (hm : X.mg x = none) (hv : bootBuiltins x = some (.type T)) (ha : PA X (e :: es) (TAs X W m)) (hn : x ≠ "__name__" := by decide) (hdb : (x == ("__debug__" : Str)) = false := by decide)
    (he : starEach (e :: es) X.env = (false, eval e X.env) :: starEach es X.env := by rfl) (hpl : (backTo pos (starEach es X.env)).any (·.1) = false := by rfl) : PE X (.Call (.Name x p) (e :: es) [] pos) (TD X W (cliC op m)) :=
  PE.imp (pe_callTy hc hg hm hv ha hn hdb he hpl) fun σ H Q q => cli_C o q
/-! ### subscripts -/
/-- an item of a list or tuple: shared, or looked at where nothing in it is owned -/
def itemOf (i : It) (s : Sg) (k : Int) : Option D :=
  match i.at s.ρ with
  | some (.lst _ ds) => pick i (atI ds k)
  | some (.frz ds) => atI ds k
  | some (.tup ds) => pick i (atI ds k)
  | some (.cell c) => match s.μ[c]? with
    | some ds => atI ds k
    | none => none
  | some (.str z) => if z.length ≤ sizeLine then (atI z.cps.toList k).map fun c => .str ⟨#[c]⟩ else none
  | _ => none
where
  pick (i : It) : Option D → Option D
    | some d => match i with
      | .val _ => some d.share
      | .pk _ => if d.free then some d else none
    | none => none
def ixM (m n : M It) : M It := bnd m fun i => bnd n fun j s =>
  match j.at s.ρ with
  | some (.int k) => match itemOf i s k with
    | some d => some (.ok (.val d), s)
    | none => none
  | _ => none
theorem atI_get {K : PySem.W.Frag} {mg : Str → Option Value} {cs B : List Addr} {H : Hp} {vs : List V} {ds : List D} {f : List Addr} (r : Reps K mg cs B H vs ds f) {k : Int} {d : D} (e : atI ds k = some d) : ∃ v g, atI vs k = some v ∧ Rep K mg cs B H v d g ∧ ∀ a ∈ g, a ∈ f := by
  unfold atI at e ⊢
  rw [← r.length] at e
  cases q : ixN vs.length k with
  | none => rw [q] at e; cases e
  | some j =>
    rw [q] at e
    simp only [Option.bind_some] at e ⊢
    clear q
    induction vs generalizing ds f j with
    | nil => cases r; simp at e
    | cons v vs ih =>
      cases r with
      | cons r1 r2 =>
        cases j with
        | zero => simp at e; subst e; exact ⟨v, _, by simp, r1, fun a h => List.mem_append_left _ h⟩
        | succ j =>
          obtain ⟨v', g, h1, h2, h3⟩ := ih r2 j (by simpa using e)
          exact ⟨v', g, by simpa using h1, h2, fun a h => List.mem_append_right _ (h3 a h)⟩
theorem Rep.seq {K : PySem.W.Frag} {mg : Str → Option Value} {cs B : List Addr} {H : Hp} {v : V} {d : D} {f : List Addr} (r : Rep K mg cs B H v d f) :
    (∀ o ds, d = .lst o ds → ∃ a xs g, v = .ref a ∧ SqL K H a xs ∧ Reps K mg cs B H xs ds g ∧ ∀ b ∈ g, b ∈ f) ∧ (∀ ds, d = .tup ds → ∃ a xs, v = .ref a ∧ SqT K H a xs ∧ Reps K mg cs B H xs ds f) := by
  refine ⟨fun o ds e => ?_, fun ds e => ?_⟩
  · subst e
    obtain ⟨a, xs, g, h1, h2, h3, h4⟩ := r.sqL
    refine ⟨a, xs, g, h1, h2, h3, fun b hb => ?_⟩
    rcases h4 with h4 | h4
    · rw [← h4]; exact hb
    · rw [h4]; exact List.mem_cons_of_mem _ hb
  · subst e
    cases r with
    | tup h r => exact ⟨_, _, rfl, h, r⟩
theorem dX {a b : Expr} {m n : M It} {pos : Pos} (ha : PE X a (TD X W m)) (hb : PE X b (TD X W n)) (hs : PlainIx b := by intro _ _; rfl) : PE X (.Subscript a b pos) (TD X W (ixM m n)) := by
  refine PE.imp (pe_ix ix_seq ha hb hs) fun σ H Q ⟨Γ, cs, s, T, Fs, Ft, hK, hM, g, a⟩ => ?_
  refine TD.go hK hM g (a.bnd.mono fun i s1 a1 v1 H1 cs1 Fs1 Ft1 g1 => ?_)
  refine TD.go hK hM g1 (a1.bnd.push.mono fun j s2 a2 v2 H2 cs2 Fs2 Ft2 g2 => ?_)
  split at a2
  · rename_i k hk
    split at a2
    · rename_i d hd
      obtain ⟨f2, r2⟩ := g2.look hk
      cases r2
      obtain ⟨Ft3, g3, s3⟩ := g2.popS
      -- the item, by its sequence
      have fin : ∀ (ds : List D) (vs : List V) (f : List Addr) (Ft4 : List Addr), Good Γ cs2 H2 σ s2.ρ s2.μ T Fs2 Ft4 → (∀ a ∈ Ft4, a ∈ Ft3) → Reps Γ.K Γ.mg cs2 (Fs2 ++ Ft3 ++ cs2 ++ Γ.G) H2 vs ds f → itemOf.pick i (atI ds k) = some d →
          (∀ b, i = .val b → ∀ a ∈ f, a ∉ Fs2 ++ Ft4 ++ cs2 ++ Γ.G) → ∃ v, atI vs k = some v ∧ Q v H2 := fun ds vs f Ft4 g4 s4 rs hp hn => by
        cases q : atI ds k with
        | none => rw [q] at hp; cases hp
        | some e =>
          rw [q] at hp
          obtain ⟨v, gg, h1, h2, h3⟩ := atI_get rs q
          refine ⟨v, h1, ?_⟩
          cases i with
          | val b =>
            simp only [itemOf.pick] at hp; cases hp
            exact a2 v H2 cs2 Fs2 Ft4 (g4.push0 (h2.share (ban s4) fun a ha => hn b rfl a (h3 a ha)))
          | pk b =>
            simp only [itemOf.pick] at hp
            split at hp
            · rename_i hf
              cases hp
              have e2 := h2.free hf
              subst e2
              exact a2 v H2 cs2 Fs2 Ft4 (g4.push0 (h2.less (ban s4)))
            · cases hp
      unfold itemOf at hd
      split at hd
      all_goals first
        | (cases hd; done)
        | skip
      · rename_i o ds hat
        have t := g3.tm
        obtain ⟨f1, r1⟩ := g3.look hat
        obtain ⟨a, xs, gg, rfl, hq, rs, hgf⟩ := (r1.seq).1 o ds rfl
        cases i with
        | val b =>
          simp only [It.at] at hat; cases hat
          generalize hT : ((V.ref a, It.val (D.lst o ds)) :: T : Tmp) = T' at t
          cases t with
          | nil => cases hT
          | pk h t => cases hT
          | @val v5 d5 f5 T5 f5' r5 t5 =>
            cases hT
            obtain ⟨a', xs', gg', e1, hq', rs', hgf'⟩ := (r5.seq).1 o ds rfl
            cases e1
            obtain ⟨v, h1, h2⟩ := fin ds xs' gg' f5' (g3.pops rfl t5) (fun a h => List.mem_append_right _ h) rs' hd fun _ _ a ha hm => by
              have nd := g3.nd a
              simp only [List.count_append] at nd
              have := memc.mp (hgf' a ha)
              simp only [List.mem_append, memc] at hm
              omega
            exact .inl ⟨a, xs', k, v, rfl, rfl, by rw [← hK]; exact hq', h1, h2⟩
        | pk b =>
          obtain ⟨Ft4, g4, s4⟩ := g3.popS
          obtain ⟨v, h1, h2⟩ := fin ds xs gg Ft4 g4 s4 rs hd fun _ e => nomatch e
          exact .inl ⟨a, xs, k, v, rfl, rfl, by rw [← hK]; exact hq, h1, h2⟩
      · rename_i ds hat
        obtain ⟨f1, r1⟩ := g3.look hat
        obtain ⟨a, xs, rfl, hq, rs, _⟩ := r1.frzL
        obtain ⟨v, gg, h1, h2, h3⟩ := atI_get rs hd
        have e2 : gg = [] := by
          cases gg with
          | nil => rfl
          | cons a l => exact nomatch h3 a (by simp)
        subst e2
        obtain ⟨Ft4, g4, s4⟩ := g3.popS
        exact .inl ⟨_, xs, k, v, rfl, rfl, by rw [← hK]; exact hq, h1, a2 v H2 cs2 Fs2 Ft4 (g4.push0 (h2.less (ban s4)))⟩
      · rename_i ds hat
        have t := g3.tm
        obtain ⟨f1, r1⟩ := g3.look hat
        obtain ⟨a, xs, rfl, hq, rs⟩ := (r1.seq).2 ds rfl
        cases i with
        | val b =>
          simp only [It.at] at hat; cases hat
          generalize hT : ((V.ref a, It.val (D.tup ds)) :: T : Tmp) = T' at t
          cases t with
          | nil => cases hT
          | pk h t => cases hT
          | @val v5 d5 f5 T5 f5' r5 t5 =>
            cases hT
            obtain ⟨a', xs', e1, hq', rs'⟩ := (r5.seq).2 ds rfl
            cases e1
            obtain ⟨v, h1, h2⟩ := fin ds xs' f5 f5' (g3.pops rfl t5) (fun a h => List.mem_append_right _ h) rs' hd fun _ _ a ha hm => by
              have nd := g3.nd a
              simp only [List.count_append] at nd
              have := memc.mp ha
              simp only [List.mem_append, memc] at hm
              omega
            exact .inr (.inl ⟨a, xs', k, v, rfl, rfl, by rw [← hK]; exact hq', h1, h2⟩)
        | pk b =>
          obtain ⟨Ft4, g4, s4⟩ := g3.popS
          obtain ⟨v, h1, h2⟩ := fin ds xs f1 Ft4 g4 s4 rs hd fun _ e => nomatch e
          exact .inr (.inl ⟨a, xs, k, v, rfl, rfl, by rw [← hK]; exact hq, h1, h2⟩)
      · rename_i c hat
        obtain ⟨f1, r1⟩ := g3.look hat
        cases r1 with
        | cell hc =>
          split at hd
          · rename_i ds he
            obtain ⟨xs, hx, rs⟩ := g3.cell hc he
            obtain ⟨v, gg, h1, h2, h3⟩ := atI_get rs hd
            have e2 : gg = [] := by
              cases gg with
              | nil => rfl
              | cons a l => exact nomatch h3 a (by simp)
            subst e2
            obtain ⟨Ft4, g4, s4⟩ := g3.popS
            exact .inl ⟨_, xs, k, v, rfl, rfl, .of hx, h1, a2 v H2 cs2 Fs2 Ft4 (g4.push0 (h2.less (ban s4)))⟩
          · cases hd
      · rename_i z hat
        obtain ⟨f1, r1⟩ := g3.look hat
        cases r1
        split at hd
        · rename_i hz
          rw [Option.map_eq_some_iff] at hd
          obtain ⟨c, hc, rfl⟩ := hd
          obtain ⟨Ft4, g4, s4⟩ := g3.popS
          exact .inr (.inr ⟨z, k, c, rfl, rfl, hz, hc, a2 _ H2 cs2 Fs2 Ft4 (g4.push0 (Scal.str _).rep)⟩)
        · cases hd
    · exact a2.elim
  · exact a2.elim
end
end DL
namespace DL
open PySem L2
theorem AfterS.bnd {α : Type} {W : WX} {Γ : Gm} {σ : St} {T : Tmp} {D : Ends} {m : M α} {f : α → M Fl} {s : Sg} (h : AfterS W Γ T D (bnd m f s)) : After W Γ σ T (fun a s' => AfterS W Γ T D (f a s')) (m s) := by
  unfold DL.bnd at h
  cases e : m s with
  | none => rw [e] at h; exact h.elim
  | some p =>
    rw [e] at h
    obtain ⟨r, s'⟩ := p
    cases r with
    | ok a => exact h
    | err c v => exact fun C d v H cs Fs Ft g => h C d v σ H cs Fs Ft g
section
variable {Γ : Gm} {cs : List Addr} {H : Hp} {σ : St} {ρ : Env} {μ : Cells} {T U : Tmp} {Fs Ft : List Addr}
theorem Good.popU : ∀ {U : Tmp} {Ft : List Addr}, Good Γ cs H σ ρ μ (U ++ T) Fs Ft → ∃ Ft', Good Γ cs H σ ρ μ T Fs Ft' ∧ ∀ a ∈ Ft', a ∈ Ft
  | [], Ft, g => ⟨Ft, g, fun _ h => h⟩
  | (v, it) :: U, Ft, g => by
    obtain ⟨F1, g1, s1⟩ := Good.popS (it := it) (v := v) g
    obtain ⟨F2, g2, s2⟩ := Good.popU g1
    exact ⟨F2, g2, fun a h => s1 a (s2 a h)⟩
theorem Good.pop1 {x : V × It} (g : Good Γ cs H σ ρ μ (x :: (U ++ T)) Fs Ft) : ∃ Ft', Good Γ cs H σ ρ μ (x :: T) Fs Ft' := by
  obtain ⟨F1, g1⟩ := g.perm (U := U ++ (x :: T)) List.perm_middle.symm
  obtain ⟨F2, g2, _⟩ := g1.popU
  exact ⟨F2, g2⟩
theorem noPk_app : ∀ {T U : Tmp}, noPk T = true → noPk U = true → noPk (T ++ U) = true
  | [], U, _, h => h
  | (_, .val _) :: T, U, h, k => noPk_app (T := T) h k
  | (_, .pk _) :: T, U, h, k => by simp [noPk] at h
end
section
variable {X : Cx} {W : WX}
theorem TSt.go {Γ : Gm} {m : M Fl} {σ : St} {H : Hp} {cs Fs Ft : List Addr} {s : Sg} {T : Tmp} {D : Ends} (hK : Γ.K = X.K) (hM : Γ.mg = X.mg) (n : noPk T = true) (g : Good Γ cs H σ s.ρ s.μ T Fs Ft) (a : AfterS W Γ T D (m s)) : TSt X W m D σ H :=
  ⟨Γ, cs, s, T, Fs, Ft, hK, hM, n, g, a⟩
/-! ### blocks -/
def skp : M Fl := ret .nx
def sq (m n : M Fl) : M Fl := fun s =>
  match m s with
  | some (.ok .nx, s') => n s'
  | o => o
theorem bNil : PSs X [] (TSt X W skp) := PSs.imp pss_nil fun D σ H ⟨Γ, cs, s, T, Fs, Ft, hK, hM, n, g, a⟩ => a σ H cs Fs Ft g
theorem AfterS.sq {Γ : Gm} {T : Tmp} {D : Ends} {m n : M Fl} {s : Sg} (hK : Γ.K = X.K) (hM : Γ.mg = X.mg) (np : noPk T = true) (h : AfterS W Γ T D (sq m n s)) : AfterS W Γ T { D with nx := TSt X W n D } (m s) := by
  unfold DL.sq at h
  cases e : m s with
  | none => rw [e] at h; exact h.elim
  | some p =>
    rw [e] at h
    obtain ⟨r, s'⟩ := p
    cases r with
    | err c v => exact h
    | ok f => cases f with
      | nx => exact fun σ H cs Fs Ft g => TSt.go hK hM np g h
      | bk => exact h
      | ct => exact h
      | rt d => exact h
theorem bCons {st : Stmt} {rest : List Stmt} {m n : M Fl} (h : PS X st (TSt X W m)) (k : PSs X rest (TSt X W n)) : PSs X (st :: rest) (TSt X W (sq m n)) :=
  PSs.imp (pss_cons h k) fun D σ H ⟨Γ, cs, s, T, Fs, Ft, hK, hM, n, g, a⟩ => TSt.go hK hM n g (a.sq hK hM n)
theorem bOne {st : Stmt} {m : M Fl} (h : PS X st (TSt X W m)) : PSs X [st] (TSt X W m) := pss_one h
/-! ### small statements -/
theorem sPass {pos : Pos} : PS X (.Pass pos) (TSt X W skp) := PS.imp ps_pass fun D σ H ⟨Γ, cs, s, T, Fs, Ft, hK, hM, n, g, a⟩ => a σ H cs Fs Ft g
theorem sBrk {pos : Pos} : PS X (.Break pos) (TSt X W (ret .bk)) := PS.imp ps_break fun D σ H ⟨Γ, cs, s, T, Fs, Ft, hK, hM, n, g, a⟩ => a σ H cs Fs Ft g
theorem sCnt {pos : Pos} : PS X (.Continue pos) (TSt X W (ret .ct)) := PS.imp ps_continue fun D σ H ⟨Γ, cs, s, T, Fs, Ft, hK, hM, n, g, a⟩ => a σ H cs Fs Ft g
def drp (m : M It) : M Fl := bnd m fun _ => ret .nx
theorem sE {e : Expr} {m : M It} {pos : Pos} (h : PE X e (TD X W m)) (hs : swapsWith e none pos.line X.env = pure false := by rfl) : PS X (.Expr e pos) (TSt X W (drp m)) :=
  PS.imp (ps_expr h hs) fun D σ H ⟨Γ, cs, s, T, Fs, Ft, hK, hM, n, g, a⟩ => TD.go hK hM g (a.bnd.mono fun it s1 a1 v H1 cs1 Fs1 Ft1 g1 => by
    obtain ⟨F2, g2⟩ := g1.pop
    exact a1 σ H1 cs1 Fs1 F2 g2)
def rtn (m : M It) : M Fl := bnd m fun it s =>
  match it with
  | .val d => some (.ok (.rt d), s)
  | .pk _ => none
theorem sR {e : Expr} {m : M It} {pos : Pos} (h : PE X e (TD X W m)) : PS X (.Return (some e) pos) (TSt X W (rtn m)) :=
  PS.imp (ps_ret h) fun D σ H ⟨Γ, cs, s, T, Fs, Ft, hK, hM, n, g, a⟩ => TD.go hK hM g (a.bnd.mono fun it s1 a1 v H1 cs1 Fs1 Ft1 g1 => by
    cases it with
    | val d => exact a1 v σ H1 cs1 Fs1 Ft1 g1
    | pk i => exact a1.elim)
theorem sR0 {pos : Pos} : PS X (.Return none pos) (TSt X W (ret (.rt .none))) :=
  PS.imp ps_retN fun D σ H ⟨Γ, cs, s, T, Fs, Ft, hK, hM, n, g, a⟩ => a .non σ H cs Fs Ft (g.push0 .none)
def ifS (t : M Bool) (m n : M Fl) : M Fl := bnd t fun b => if b then m else n
theorem sI {c : Expr} {a b : List Stmt} {t : M Bool} {m n : M Fl} {pos : Pos} (hc : PT X c (TB X W t)) (ha : PSs X a (TSt X W m)) (hb : PSs X b (TSt X W n)) : PS X (.If c a b pos) (TSt X W (ifS t m n)) :=
  PS.imp (ps_if hc ha hb) fun D σ H ⟨Γ, cs, s, T, Fs, Ft, hK, hM, n, g, a⟩ => TB.go hK hM g (a.bnd.mono fun b s1 a1 H1 cs1 Fs1 Ft1 g1 => by
    cases b with
    | true => exact TSt.go hK hM n g1 a1
    | false => exact TSt.go hK hM n g1 a1)
/-! ### targets -/
/-- what a target does with a datum -/
abbrev Tgt := D → Sg → Option Sg
def TGt (X : Cx) (ws : List Nat) (f : Tgt) : TG := fun v σ H Q => ∃ (Γ : Gm) (cs : List Addr) (s s' : Sg) (T : Tmp) (d : D) (Fs Ft : List Addr), Γ.K = X.K ∧ Γ.mg = X.mg ∧ noPk T = true ∧ Good Γ cs H σ s.ρ s.μ ((v, .val d) :: T) Fs Ft ∧ f d s = some s' ∧
  ∀ σ' H' cs' Fs' Ft', Good Γ cs' H' σ' s'.ρ s'.μ T Fs' Ft' → σ'.length = σ.length → (∀ (j : Nat), j ∉ ws → σ'[j]? = σ[j]?) → Q σ' H'
theorem PG.imp {X : Cx} {e : Expr} {t u : TG} (h : PG X e t) (k : ∀ v σ H Q, u v σ H Q → t v σ H Q) : PG X e u := ⟨fun pins s σ H v w Q I r q => h.run pins s σ H v w Q I r (k v σ H Q q)⟩
theorem PGs.imp {X : Cx} {e : List Expr} {t u : TGs} (h : PGs X e t) (k : ∀ v σ H Q, u v σ H Q → t v σ H Q) : PGs X e u := ⟨fun pins s σ H v w Q I r q => h.run pins s σ H v w Q I r (k v σ H Q q)⟩
def toN (i : Nat) : Tgt := fun d s => if i < s.ρ.length then some ⟨s.ρ.set i (some d), s.μ⟩ else none
theorem gName_of {i : Nat} : ∀ (v : V) (σ : St) (H : Hp) (Q : St → Hp → Prop), TGt X [i] (toN i) v σ H Q → gName i v σ H Q := fun v σ H Q ⟨Γ, cs, s, s', T, d, Fs, Ft, hK, hM, n, g, e, a⟩ => by
  unfold toN at e
  split at e
  · rename_i hi
    cases e
    obtain ⟨F1, F2, g1⟩ := g.set n (i := i) (by rw [g.sl.len]; exact hi)
    exact a _ H cs F1 F2 g1 (by simp) fun j hj => by rw [List.getElem?_set_ne (fun z => hj (by simp [z]))]
  · cases e
theorem gN {e : Expr} {i : Nat} (h : PG X e (gName i)) : PG X e (TGt X [i] (toN i)) := PG.imp h gName_of
/-- several targets -/
def TGts (X : Cx) (ws : List Nat) (f : List D → Sg → Option Sg) : TGs := fun vs σ H Q => ∃ (Γ : Gm) (cs : List Addr) (s s' : Sg) (T : Tmp) (ds : List D) (Fs Ft : List Addr), Γ.K = X.K ∧ Γ.mg = X.mg ∧ noPk T = true ∧ vs.length = ds.length ∧ Good Γ cs H σ s.ρ s.μ (vals vs ds ++ T) Fs Ft ∧ f ds s = some s' ∧
  ∀ σ' H' cs' Fs' Ft', Good Γ cs' H' σ' s'.ρ s'.μ T Fs' Ft' → σ'.length = σ.length → (∀ (j : Nat), j ∉ ws → σ'[j]? = σ[j]?) → Q σ' H'
def tgs0 : List D → Sg → Option Sg
  | [], s => some s
  | _ :: _, _ => none
def tgsC (f : Tgt) (g : List D → Sg → Option Sg) : List D → Sg → Option Sg
  | [], _ => none
  | d :: ds, s => match f d s with
    | some s1 => g ds s1
    | none => none
theorem gs0 : PGs X [] (TGts X [] tgs0) :=
  PGs.imp pgs_nil fun vs σ H Q ⟨Γ, cs, s, s', T, ds, Fs, Ft, hK, hM, n, hl, g, e, a⟩ => by
    cases ds with
    | nil =>
      have : vs = [] := by simpa using hl
      subst this
      cases e
      exact ⟨rfl, a σ H cs Fs Ft g rfl fun _ _ => rfl⟩
    | cons d ds => cases e
theorem noPk_vals : ∀ {vs : List V} {ds : List D} {T : Tmp}, noPk T = true → noPk (vals vs ds ++ T) = true
  | [], ds, T, h => by simpa [vals] using h
  | v :: vs, [], T, h => by simpa [vals] using h
  | v :: vs, d :: ds, T, h => noPk_vals (vs := vs) (ds := ds) h
theorem gsC {e : Expr} {es : List Expr} {ws ws' : List Nat} {f : Tgt} {g : List D → Sg → Option Sg} (h : PG X e (TGt X ws f)) (k : PGs X es (TGts X ws' g)) (hs : (assignEach (e :: es) X.env).map (·.2) = assign e X.env :: (assignEach es X.env).map (·.2) := by rfl) : PGs X (e :: es) (TGts X (ws ++ ws') (tgsC f g)) :=
  PGs.imp (pgs_cons h k hs) fun vs σ H Q ⟨Γ, cs, s, s', T, ds, Fs, Ft, hK, hM, n, hl, gd, e, a⟩ => by
    cases ds with
    | nil => cases e
    | cons d ds =>
      cases vs with
      | nil => simp at hl
      | cons v vs =>
        have hl' : vs.length = ds.length := by simpa using hl
        cases e1 : f d s with
        | none => simp only [tgsC, e1] at e; cases e
        | some s1 =>
          simp only [tgsC, e1] at e
          exact ⟨v, vs, rfl, Γ, cs, s, s1, vals vs ds ++ T, d, Fs, Ft, hK, hM, noPk_vals n, gd, e1, fun σ1 H1 cs1 F1 F2 g1 l1 n1 => ⟨Γ, cs1, s1, s', T, ds, F1, F2, hK, hM, n, hl', g1, e, fun σ2 H2 cs2 F3 F4 g2 l2 n2 =>
            a σ2 H2 cs2 F3 F4 g2 (l2.trans l1) fun j hj => (n2 j fun z => hj (List.mem_append_right _ z)).trans (n1 j fun z => hj (List.mem_append_left _ z))⟩⟩
def toT (n : Nat) (g : List D → Sg → Option Sg) : Tgt := fun d s =>
  match d with
  | .tup ds => if ds.length = n then g ds s else none
  | _ => none
/-- a tuple in hand is opened -/
theorem Good.open {Γ : Gm} {cs : List Addr} {H : Hp} {σ : St} {ρ : Env} {μ : Cells} {T : Tmp} {Fs Ft : List Addr} {v : V} {ds : List D} (g : Good Γ cs H σ ρ μ ((v, .val (.tup ds)) :: T) Fs Ft) : ∃ a vs, v = .ref a ∧ SqT Γ.K H a vs ∧ vs.length = ds.length ∧ Good Γ cs H σ ρ μ (vals vs ds ++ T) Fs Ft := by
  have t := g.tm
  generalize hT : ((v, .val (.tup ds)) :: T : Tmp) = T' at t
  cases t with
  | nil => cases hT
  | pk h t => cases hT
  | @val v1 d1 f1 T1 f1' r1 t3 =>
    cases hT
    obtain ⟨a, vs, rfl, hq, rs⟩ := (r1.seq).2 ds rfl
    exact ⟨a, vs, rfl, hq, rs.length, g.sl, Temps.of_reps rs t3, g.ce, g.nd, g.kp, g.fr, g.c1, g.c2, g.g0⟩
theorem gT {es : List Expr} {k : Nat} {pos : Pos} {ws : List Nat} {g : List D → Sg → Option Sg} {n : Nat} (hc : X.calm = true) (h : PGs X es (TGts X ws g)) (hn : (assignEach es X.env).length = n := by rfl) (hst : (assignEach es X.env).findIdx? (·.1) = none := by rfl) :
    PG X (.Tuple es k pos) (TGt X ws (toT n g)) :=
  PG.imp (pg_tup hc h hn hst) fun v σ H Q ⟨Γ, cs, s, s', T, d, Fs, Ft, hK, hM, np, gd, e, a⟩ => by
    unfold toT at e
    split at e
    · rename_i ds
      split at e
      · rename_i hl
        obtain ⟨ad, vs, rfl, hq, hl2, g2⟩ := gd.open
        exact ⟨ad, vs, rfl, by rw [← hK]; exact hq, hl2.trans hl, Γ, cs, s, s', T, ds, Fs, Ft, hK, hM, np, hl2, g2, e, a⟩
      · cases e
    · cases e
/-- target = value -/
def asg (m : M It) (f : Tgt) : M Fl := bnd m fun it s =>
  match it with
  | .val d => match f d s with
    | some s' => some (.ok .nx, s')
    | none => none
  | .pk _ => none
theorem asg_go {m : M It} {ws : List Nat} {f : Tgt} {g : TG} (hg : ∀ v σ H Q, TGt X ws f v σ H Q → g v σ H Q) {D : Ends} {σ : St} {H : Hp} (h : TSt X W (asg m f) D σ H) : tAsg (TD X W m) g D σ H := by
  obtain ⟨Γ, cs, s, T, Fs, Ft, hK, hM, n, gd, a⟩ := h
  refine TD.go hK hM gd (a.bnd.mono fun it s1 a1 v H1 cs1 Fs1 Ft1 g1 => hg _ _ _ _ ?_)
  cases it with
  | pk i => exact a1.elim
  | val d =>
    dsimp only at a1
    split at a1
    · rename_i s' e
      exact ⟨Γ, cs1, s1, s', T, d, Fs1, Ft1, hK, hM, n, g1, e, fun σ' H' cs' F F' g' _ _ => a1 σ' H' cs' F F' g'⟩
    · exact a1.elim
theorem sA {tg e : Expr} {m : M It} {ws : List Nat} {f : Tgt} {pos : Pos} (he : PE X e (TD X W m)) (hg : PG X tg (TGt X ws f)) (hs : swapsWithSole [tg] e pos.line X.env = pure false := by rfl) (hw : swappedStores [tg] e X.env = pure none := by rfl)
    (h1 : (assignEach [tg] X.env).map (·.2) = [assign tg X.env] := by rfl) : PS X (.Assign [tg] e pos) (TSt X W (asg m f)) := PS.imp (ps_asg he hg hs hw h1) fun D σ H q => asg_go (fun _ _ _ _ h => h) q
theorem sN {i : Nat} {x : Str} {e : Expr} {m : M It} {pos pos' : Pos} (hN : X.N.Nodup) (hi : X.N[i]? = some x) (hx : Loc X.env.scope x) (he : PE X e (TD X W m)) (hs : swapsWith e (some (.Name x pos')) pos.line X.env = pure false := by rfl) (hf : X.fn x = true ∨ X.env.scope.names.lookup x = some .local := by first | exact .inl rfl | exact .inr rfl | assumption) :
    PS X (.Assign [.Name x pos'] e pos) (TSt X W (asg m (toN i))) := PS.imp (ps_set hN hi hx he hs hf) fun D σ H q => asg_go gName_of q
/-! ### while -/
def whl (c : M Bool) (b : M Fl) : Nat → M Fl
  | 0 => fun _ => none
  | n + 1 => bnd c fun t => if t then fun s =>
      match b s with
      | some (.ok .nx, s') => whl c b n s'
      | some (.ok .ct, s') => whl c b n s'
      | some (.ok .bk, s') => some (.ok .nx, s')
      | o => o
    else ret .nx
theorem sW {c : Expr} {body : List Stmt} {t : M Bool} {m : M Fl} {pos : Pos} (n : Nat) (hp : PassesOwn (model X.prog X.w) X.A X.env X.xe) (hc : PT X c (TB X W t)) (hb : PSs X body (TSt X W m)) : PS X (.While c body [] pos) (TSt X W (whl t m n)) :=
  PS.imp (ps_while hp hc hb) fun D σ H ⟨Γ, cs, s, T, Fs, Ft, hK, hM, np, g, a⟩ => by
    refine ⟨fun k σ H => ∃ (cs Fs Ft : List Addr) (s : Sg), Good Γ cs H σ s.ρ s.μ T Fs Ft ∧ AfterS W Γ T D (whl t m k s), ⟨n, cs, Fs, Ft, s, g, a⟩, ?_⟩
    rintro k σ H ⟨cs, Fs, Ft, s, g, a⟩
    cases k with
    | zero => exact a.elim
    | succ k =>
      refine TB.go hK hM g ((AfterS.bnd a).mono fun b s1 a1 H1 cs1 Fs1 Ft1 g1 => ?_)
      cases b with
      | false => exact a1 σ H1 cs1 Fs1 Ft1 g1
      | true =>
        rw [if_pos rfl]
        rw [if_pos rfl] at a1
        refine ⟨fun σ' H' => ∃ (cs Fs Ft : List Addr) (s : Sg), Good Γ cs H' σ' s.ρ s.μ T Fs Ft ∧ AfterS W Γ T D (whl t m k s), fun σ' H' h => ⟨k, Nat.lt_succ_self k, h⟩, TSt.go hK hM np g1 ?_⟩
        cases e : m s1 with
        | none => rw [e] at a1; exact a1.elim
        | some p =>
          rw [e] at a1
          obtain ⟨r, s'⟩ := p
          cases r with
          | err c v => exact a1
          | ok f => cases f with
            | nx => exact fun σ H cs Fs Ft g => ⟨cs, Fs, Ft, s', g, a1⟩
            | bk => exact a1
            | ct => exact fun σ H cs Fs Ft g => ⟨cs, Fs, Ft, s', g, a1⟩
            | rt d => exact a1
end
end DL
namespace DL
open PySem L2
section
variable {X : Cx} {W : WX}
/-! ### what is walked -/
/-- what is walked: fixed things; or what a look at the cells gives at each turn (n turns at most) -/
inductive Src where
  | fix (ds : List D)
  | dyn (n : Nat) (f : Cells → Nat → Option D)
  | str (n : Nat) (f : Cells → Nat → Option D) (g : Cells → Nat → Bool)
def Src.item : Src → Cells → Nat → Option D
  | .fix ds, _, i => ds[i]?
  | .dyn _ f, μ, i => f μ i
  | .str _ f _, μ, i => f μ i
/-- where no item is left: may it end so -/
def Src.fin : Src → Cells → Nat → Bool
  | .str _ _ g, μ, i => g μ i
  | _, _, _ => true
/-- the walk J, while U is held, gives the items -/
structure JOk (X : Cx) (J : L2.It) (U : Tmp) (src : Src) : Prop where
  np : noPk U = true
  stop : ∀ (Γ : Gm) (cs : List Addr) (H : Hp) (σ : St) (ρ : Env) (μ : Cells) (T : Tmp) (Fs Ft : List Addr) (i : Nat), Γ.K = X.K → Γ.mg = X.mg → Good Γ cs H σ ρ μ (U ++ T) Fs Ft → src.item μ i = none → src.fin μ i = true → J.stop i H
  go : ∀ (Γ : Gm) (cs : List Addr) (H : Hp) (σ : St) (ρ : Env) (μ : Cells) (T : Tmp) (Fs Ft : List Addr) (i : Nat) (d : D), Γ.K = X.K → Γ.mg = X.mg → Good Γ cs H σ ρ μ (U ++ T) Fs Ft → src.item μ i = some d →
    J.go i H ∧ ∀ x H', J.yld i H x H' → ∃ Fs' Ft', Good Γ cs H' σ ρ μ ((x, .val d) :: (U ++ T)) Fs' Ft'
def TIt (X : Cx) (W : WX) (m : M Src) : TI := fun σ H R => ∃ (Γ : Gm) (cs : List Addr) (s : Sg) (T : Tmp) (Fs Ft : List Addr), Γ.K = X.K ∧ Γ.mg = X.mg ∧ Good Γ cs H σ s.ρ s.μ T Fs Ft ∧
  After W Γ σ T (fun src s' => ∀ J U H' cs' Fs' Ft', JOk X J U src → Good Γ cs' H' σ s'.ρ s'.μ (U ++ T) Fs' Ft' → R J H') (m s)
theorem PI.imp {X : Cx} {tg e : Expr} {t u : TI} (h : PI X tg e t) (k : ∀ σ H Q, u σ H Q → t σ H Q) : PI X tg e u := ⟨fun pins s σ H Q I q => h.run pins s σ H Q I (k σ H Q q)⟩
theorem PI.or {X : Cx} {tg e : Expr} {t u : TI} (h : PI X tg e t) (k : PI X tg e u) : PI X tg e (fun σ H Q => t σ H Q ∨ u σ H Q) := ⟨fun pins s σ H Q I q => q.elim (h.run pins s σ H Q I) (k.run pins s σ H Q I)⟩
/-- a list or a tuple -/
def itS (m : M It) : M Src := bnd m fun it s =>
  match it.sat s.ρ with
  | some (.lst _ ds) => some (.ok (.fix ds), s)
  | some (.frz ds) => some (.ok (.fix ds), s)
  | some (.tup ds) => some (.ok (.fix ds), s)
  | some (.cell k) => match s.μ[k]? with
    | some ds => some (.ok (.dyn (ds.length + 1) fun μ i => (μ[k]?).bind (·[i]?)), s)
    | none => none
  | _ => none
theorem jList {K : PySem.W.Frag} {a : Addr} {ds : List D} (hK : K = X.K) : JOk X (Itl K a) [(.ref a, .val (.lst false ds))] (.fix ds) where
  np := rfl
  stop := fun Γ cs H σ ρ μ T Fs Ft i hK' hM g hi _ => by
    obtain ⟨f, r⟩ := Good.look (it := .val (.lst false ds)) g rfl
    obtain ⟨a', xs, gg, e, hq, rs, _⟩ := (r.seq).1 false ds rfl
    cases e
    refine ⟨xs, by rw [hK, ← hK']; exact hq, ?_⟩
    rw [rs.length]
    have : ds[i]? = none := hi
    simpa using this
  go := fun Γ cs H σ ρ μ T Fs Ft i d hK' hM g hi => by
    obtain ⟨f, r⟩ := Good.look (it := .val (.lst false ds)) g rfl
    have rr : ∃ xs, SqL Γ.K H a xs ∧ Reps Γ.K Γ.mg cs (Fs ++ Ft ++ cs ++ Γ.G) H xs ds [] := by
      cases r with
      | lstS h n r => exact ⟨_, .inl (.inl h), r⟩
    obtain ⟨xs, hq, rs⟩ := rr
    obtain ⟨v, hv, rv⟩ := rs.get (show ds[i]? = some d from hi)
    refine ⟨⟨xs, v, by rw [hK, ← hK']; exact hq, hv⟩, fun x H' y => ?_⟩
    obtain ⟨rfl, y⟩ := y
    have e := y xs (by rw [hK, ← hK']; exact hq)
    rw [hv] at e; cases e
    exact ⟨Fs, Ft, g.push0 rv⟩
theorem jFrz {K : PySem.W.Frag} {a : Addr} {ds : List D} (hK : K = X.K) : JOk X (Itl K a) [(.ref a, .val (.frz ds))] (.fix ds) where
  np := rfl
  stop := fun Γ cs H σ ρ μ T Fs Ft i hK' hM g hi _ => by
    obtain ⟨f, r⟩ := Good.look (it := .val (.frz ds)) g rfl
    obtain ⟨a', xs, e, hq, rs, _⟩ := r.frzL
    cases e
    refine ⟨xs, by rw [hK, ← hK']; exact hq, ?_⟩
    rw [rs.length]
    have : ds[i]? = none := hi
    simpa using this
  go := fun Γ cs H σ ρ μ T Fs Ft i d hK' hM g hi => by
    obtain ⟨f, r⟩ := Good.look (it := .val (.frz ds)) g rfl
    obtain ⟨a', xs, e, hq, rs, _⟩ := r.frzL
    cases e
    obtain ⟨v, hv, rv⟩ := rs.get (show ds[i]? = some d from hi)
    refine ⟨⟨xs, v, by rw [hK, ← hK']; exact hq, hv⟩, fun x H' y => ?_⟩
    obtain ⟨rfl, y⟩ := y
    have e := y xs (by rw [hK, ← hK']; exact hq)
    rw [hv] at e; cases e
    exact ⟨Fs, Ft, g.push0 rv⟩
theorem jTup {K : PySem.W.Frag} {a : Addr} {ds : List D} (hK : K = X.K) (hf : D.frees ds = true) : JOk X (Itt K a) [(.ref a, .val (.tup ds))] (.fix ds) where
  np := rfl
  stop := fun Γ cs H σ ρ μ T Fs Ft i hK' hM g hi _ => by
    obtain ⟨f, r⟩ := Good.look (it := .val (.tup ds)) g rfl
    obtain ⟨a', xs, e, hq, rs⟩ := (r.seq).2 ds rfl
    cases e
    refine ⟨xs, by rw [hK, ← hK']; exact hq, ?_⟩
    rw [rs.length]
    have : ds[i]? = none := hi
    simpa using this
  go := fun Γ cs H σ ρ μ T Fs Ft i d hK' hM g hi => by
    obtain ⟨f, r⟩ := Good.look (it := .val (.tup ds)) g rfl
    obtain ⟨a', xs, e, hq, rs⟩ := (r.seq).2 ds rfl
    cases e
    have ef := rs.free hf
    subst ef
    obtain ⟨v, hv, rv⟩ := rs.get (show ds[i]? = some d from hi)
    refine ⟨⟨xs, v, by rw [hK, ← hK']; exact hq, hv⟩, fun x H' y => ?_⟩
    obtain ⟨rfl, y⟩ := y
    have e := y xs (by rw [hK, ← hK']; exact hq)
    rw [hv] at e; cases e
    exact ⟨Fs, Ft, g.push0 rv⟩
theorem jCell {K : PySem.W.Frag} {a : Addr} {k n : Nat} (hK : K = X.K) : JOk X (Itl K a) [(.ref a, .val (.cell k))] (.dyn n fun μ i => (μ[k]?).bind (·[i]?)) where
  np := rfl
  stop := fun Γ cs H σ ρ μ T Fs Ft i hK' hM g hi _ => by
    obtain ⟨f, r⟩ := Good.look (it := .val (.cell k)) g rfl
    cases r with
    | cell hc =>
      have hl := g.ce.len
      obtain ⟨hk, _⟩ := List.getElem?_eq_some_iff.mp hc
      obtain ⟨ds, he⟩ : ∃ ds, μ[k]? = some ds := ⟨μ[k]'(by omega), by simp⟩
      obtain ⟨xs, hx, rs⟩ := g.cell hc he
      have hi' : (μ[k]?).bind (·[i]?) = none := hi
      rw [he] at hi'
      refine ⟨xs, .of hx, ?_⟩
      rw [rs.length]
      simpa using hi'
  go := fun Γ cs H σ ρ μ T Fs Ft i d hK' hM g hi => by
    obtain ⟨f, r⟩ := Good.look (it := .val (.cell k)) g rfl
    cases r with
    | cell hc =>
      have hi' : (μ[k]?).bind (·[i]?) = some d := hi
      cases he : μ[k]? with
      | none => rw [he] at hi'; cases hi'
      | some ds =>
        rw [he] at hi'
        obtain ⟨xs, hx, rs⟩ := g.cell hc he
        obtain ⟨v, hv, rv⟩ := rs.get (show ds[i]? = some d from hi')
        refine ⟨⟨xs, v, .of hx, hv⟩, fun x H' y => ?_⟩
        obtain ⟨rfl, y⟩ := y
        have e := y xs (.of hx)
        rw [hv] at e; cases e
        exact ⟨Fs, Ft, g.push0 rv⟩
theorem sat_free {it : It} {ρ : Env} {d : D} (e : it.sat ρ = some d) : d.free = true := by
  cases it with
  | val d0 => simp only [It.sat] at e; cases e; exact D.free_share _
  | pk i =>
    simp only [It.sat] at e
    split at e
    · split at e
      · rename_i h; cases e; exact h
      · cases e
    · cases e
theorem iS {tg l : Expr} {m : M It} (h : PE X l (TD X W m)) : PI X tg l (TIt X W (itS m)) := by
  refine PI.imp (PI.or (pi_list h) (pi_tup h)) fun σ H R ⟨Γ, cs, s, T, Fs, Ft, hK, hM, g, a⟩ => ?_
  have a0 := a.bnd
  cases e : m s with
  | none => rw [e] at a0; exact a0.elim
  | some p =>
    obtain ⟨r, s1⟩ := p
    cases r with
    | err c v =>
      refine .inl (TD.go hK hM g ?_)
      rw [e] at a0 ⊢
      exact a0
    | ok it =>
      have a1 : After W Γ σ T _ _ := a0
      rw [e] at a1
      change After W Γ σ T _ (match it.sat s1.ρ with
        | some (.lst _ ds) => some (.ok (Src.fix ds), s1)
        | some (.frz ds) => some (.ok (Src.fix ds), s1)
        | some (.tup ds) => some (.ok (Src.fix ds), s1)
        | some (.cell k) => match s1.μ[k]? with
          | some ds => some (.ok (Src.dyn (ds.length + 1) fun μ i => (μ[k]?).bind (·[i]?)), s1)
          | none => none
        | _ => none) at a1
      split at a1
      · rename_i o ds hs
        refine .inl (TD.go hK hM g ?_)
        rw [e]
        intro v H1 cs1 Fs1 Ft1 g1
        obtain ⟨F2, g2, r2, hf, _⟩ := g1.sat hs
        have ho : o = false ∧ D.frees ds = true := by simpa [D.free] using hf
        obtain ⟨rfl, hfs⟩ := ho
        obtain ⟨a, xs, gg, rfl, hq, rs, _⟩ := (r2.seq).1 false ds rfl
        exact ⟨a, rfl, ⟨xs, by rw [← hK]; exact hq⟩, a1 _ [(.ref a, .val (.lst false ds))] H1 cs1 Fs1 F2 (jList rfl) (g2.push0 r2)⟩
      · rename_i ds hs
        refine .inl (TD.go hK hM g ?_)
        rw [e]
        intro v H1 cs1 Fs1 Ft1 g1
        obtain ⟨F2, g2, r2, hf, _⟩ := g1.sat hs
        obtain ⟨a, xs, rfl, hq, rs, _⟩ := r2.frzL
        exact ⟨a, rfl, ⟨xs, by rw [← hK]; exact hq⟩, a1 _ [(.ref a, .val (.frz ds))] H1 cs1 Fs1 F2 (jFrz rfl) (g2.push0 r2)⟩
      · rename_i ds hs
        refine .inr (TD.go hK hM g ?_)
        rw [e]
        intro v H1 cs1 Fs1 Ft1 g1
        obtain ⟨F2, g2, r2, hf, _⟩ := g1.sat hs
        obtain ⟨a, xs, rfl, hq, rs⟩ := (r2.seq).2 ds rfl
        exact ⟨a, rfl, ⟨xs, by rw [← hK]; exact hq⟩, a1 _ [(.ref a, .val (.tup ds))] H1 cs1 Fs1 F2 (jTup rfl (by simpa [D.free] using hf)) (g2.push0 r2)⟩
      · rename_i k hs
        split at a1
        · rename_i ds he
          refine .inl (TD.go hK hM g ?_)
          rw [e]
          intro v H1 cs1 Fs1 Ft1 g1
          obtain ⟨F2, g2, r2, hf, _⟩ := g1.sat hs
          cases r2 with
          | @cell a _ hc =>
            obtain ⟨xs, hx, rs⟩ := g2.cell hc he
            exact ⟨a, rfl, ⟨xs, .of hx⟩, a1 _ [(.ref a, .val (.cell k))] H1 cs1 Fs1 F2 (jCell rfl) (g2.push0 (.cell hc))⟩
        · exact a1.elim
      · exact a1.elim
/-- lo, lo + 1, .. -/
def rng (lo : Int) (n : Nat) : List D := (List.range n).map fun (k : Nat) => .int (lo + (k : Int))
theorem jRng {lo : Int} {n : Nat} : JOk X (Itr lo n) [] (.fix (rng lo n)) where
  np := rfl
  stop := fun Γ cs H σ ρ μ T Fs Ft i hK' hM g hi _ => by
    have hi' : (rng lo n)[i]? = none := hi
    have : n ≤ i := by simpa [rng] using hi'
    exact this
  go := fun Γ cs H σ ρ μ T Fs Ft i d hK' hM g hi => by
    have hi : (rng lo n)[i]? = some d := hi
    unfold rng at hi
    rw [List.getElem?_map] at hi
    have hin : i < n := by
      cases q : (List.range n)[i]? with
      | none => rw [q] at hi; cases hi
      | some j => simpa using (List.getElem?_eq_some_iff.mp q).1
    rw [List.getElem?_range hin] at hi
    cases hi
    refine ⟨hin, fun x H' y => ?_⟩
    obtain ⟨rfl, rfl⟩ := y
    exact ⟨Fs, Ft, g.push0 (.int _)⟩
def small62 (i : Int) : Bool := decide (i.natAbs < 4611686018427387904)
theorem small62_iff {i : Int} : small62 i = true ↔ -(2 ^ 62) < i ∧ i < 2 ^ 62 := by unfold small62; rw [decide_eq_true_eq]; omega
theorem small62_le {i : Int} (h : small62 i = true) : -(2 ^ 62) ≤ i ∧ i < 2 ^ 62 := by have := small62_iff.mp h; omega
def it1 (m : M (List It)) : M Src := bnd m fun l s =>
  match atAll s l with
  | some [.int j] => if small62 j then some (.ok (.fix (rng 0 j.toNat)), s) else none
  | _ => none
def it2 (m : M (List It)) : M Src := bnd m fun l s =>
  match atAll s l with
  | some [.int i, .int j] => if small62 i && small62 j then some (.ok (.fix (rng i (j - i).toNat)), s) else none
  | _ => none
theorem i1 {tg a : Expr} {m : M (List It)} {p pos : Pos} (hg : Gl X "range") (hm : X.mg "range" = none) (ha : PA X [a] (TAs X W m)) (hs : starEach [a] X.env = [(false, eval a X.env)] := by rfl) : PI X tg (.Call (.Name "range" p) [a] [] pos) (TIt X W (it1 m)) :=
  PI.imp (pi_range1 hg hm ha hs) fun σ H R ⟨Γ, cs, s, T, Fs, Ft, hK, hM, g, a⟩ => TAs.go hK hM g (a.bnd.mono fun l s1 a1 vs H1 cs1 Fs1 Ft1 hl g1 => by
    split at a1
    · rename_i j e
      split at a1
      · rename_i hj
        obtain ⟨f, r⟩ := Good.lookAll hl g1 e
        obtain ⟨F2, g2, _⟩ := Good.popAll hl g1
        cases r with
        | cons r1 r2 =>
          cases r1; cases r2
          obtain ⟨h1, h2⟩ := small62_le hj
          exact ⟨j, rfl, h1, h2, a1 _ [] H1 cs1 Fs1 F2 jRng g2⟩
      · exact a1.elim
    · exact a1.elim)
theorem i2 {tg a b : Expr} {m : M (List It)} {p pos : Pos} (hg : Gl X "range") (hm : X.mg "range" = none) (ha : PA X [a, b] (TAs X W m)) (hs : starEach [a, b] X.env = [(false, eval a X.env), (false, eval b X.env)] := by rfl) (hs2 : starEach [b] X.env = [(false, eval b X.env)] := by rfl) : PI X tg (.Call (.Name "range" p) [a, b] [] pos) (TIt X W (it2 m)) :=
  PI.imp (pi_range2 hg hm ha hs hs2) fun σ H R ⟨Γ, cs, s, T, Fs, Ft, hK, hM, g, a⟩ => TAs.go hK hM g (a.bnd.mono fun l s1 a1 vs H1 cs1 Fs1 Ft1 hl g1 => by
    split at a1
    · rename_i i j e
      split at a1
      · rename_i hj
        obtain ⟨f, r⟩ := Good.lookAll hl g1 e
        obtain ⟨F2, g2, _⟩ := Good.popAll hl g1
        cases r with
        | cons r1 r2 => cases r2 with
          | cons r2 r3 =>
            cases r1; cases r2; cases r3
            rw [Bool.and_eq_true] at hj
            obtain ⟨h1, h2⟩ := small62_le hj.1
            obtain ⟨h3, h4⟩ := small62_le hj.2
            exact ⟨i, j, rfl, ⟨h1, h2, h3, h4⟩, a1 _ [] H1 cs1 Fs1 F2 jRng g2⟩
      · exact a1.elim
    · exact a1.elim)
/-! ### for -/
def forL (f : Tgt) (b : M Fl) : List D → M Fl
  | [] => ret .nx
  | d :: r => fun s =>
    match f d s with
    | none => none
    | some s1 => match b s1 with
      | some (.ok .nx, s2) => forL f b r s2
      | some (.ok .ct, s2) => forL f b r s2
      | some (.ok .bk, s2) => some (.ok .nx, s2)
      | o => o
def forD (f : Tgt) (b : M Fl) (it : Cells → Nat → Option D) : Nat → Nat → M Fl
  | 0, _ => fun _ => none
  | n + 1, i => fun s =>
    match it s.μ i with
    | none => some (.ok .nx, s)
    | some d => match f d s with
      | none => none
      | some s1 => match b s1 with
        | some (.ok .nx, s2) => forD f b it n (i + 1) s2
        | some (.ok .ct, s2) => forD f b it n (i + 1) s2
        | some (.ok .bk, s2) => some (.ok .nx, s2)
        | o => o
def forG (f : Tgt) (b : M Fl) (it : Cells → Nat → Option D) (fin : Cells → Nat → Bool) : Nat → Nat → M Fl
  | 0, _ => fun _ => none
  | n + 1, i => fun s =>
    match it s.μ i with
    | none => if fin s.μ i = true then some (.ok .nx, s) else none
    | some d => match f d s with
      | none => none
      | some s1 => match b s1 with
        | some (.ok .nx, s2) => forG f b it fin n (i + 1) s2
        | some (.ok .ct, s2) => forG f b it fin n (i + 1) s2
        | some (.ok .bk, s2) => some (.ok .nx, s2)
        | o => o
def forS (m : M Src) (f : Tgt) (b : M Fl) : M Fl := bnd m fun src =>
  match src with
  | .fix ds => forL f b ds
  | .dyn n it => forD f b it n 0
  | .str n it fin => forG f b it fin n 0
theorem sF {tg iter : Expr} {body : List Stmt} {m : M Src} {ws : List Nat} {f : Tgt} {b : M Fl} {pos : Pos} (hp : PassesOwn (model X.prog X.w) X.A X.env X.xe) (hc : X.calm = true) (hi : PI X tg iter (TIt X W m)) (hg : PG X tg (TGt X ws f)) (hb : PSs X body (TSt X W b))
    (hs : ∀ x, foldedSetIterable iter X.env x = pure x := by intro _; rfl) : PS X (.For tg iter body [] pos) (TSt X W (forS m f b)) :=
  PS.imp (ps_for hp hc hi hg hb hs) fun D σ H ⟨Γ, cs, s, T, Fs, Ft, hK, hM, np, g, a⟩ => by
    refine ⟨Γ, cs, s, T, Fs, Ft, hK, hM, g, (AfterS.bnd a).mono fun src s1 a1 J U H1 cs1 Fs1 Ft1 jo g1 => ?_⟩
    cases src with
    | fix items =>
      dsimp only at a1
      refine ⟨(fun i k σ H => k = items.length - i ∧ ∃ (cs Fs Ft : List Addr) (s : Sg), Good Γ cs H σ s.ρ s.μ (U ++ T) Fs Ft ∧ AfterS W Γ T D (forL f b (items.drop i) s)), ⟨_, rfl, cs1, Fs1, Ft1, s1, g1, a1⟩, ?_⟩
      rintro i k σ H ⟨rfl, cs, Fs, Ft, s, g, a⟩
      cases q : items[i]? with
      | none =>
        have hl : items.length ≤ i := by simpa using q
        refine .inl ⟨jo.stop Γ cs H σ _ _ T Fs Ft i hK hM g q rfl, ?_⟩
        rw [List.drop_eq_nil_of_le hl] at a
        obtain ⟨F2, g2, _⟩ := g.popU
        exact a σ H cs Fs F2 g2
      | some d =>
        obtain ⟨hlt, he⟩ := List.getElem?_eq_some_iff.mp q
        obtain ⟨hgo, hy⟩ := jo.go Γ cs H σ _ _ T Fs Ft i d hK hM g q
        refine .inr ⟨hgo, (fun σ H => ∃ (cs Fs Ft : List Addr) (s : Sg), Good Γ cs H σ s.ρ s.μ (U ++ T) Fs Ft ∧ AfterS W Γ T D (forL f b (items.drop (i + 1)) s)), fun σ' H' h => ⟨items.length - (i + 1), by omega, rfl, h⟩, fun x H' y => ?_⟩
        obtain ⟨F1, F2, g1⟩ := hy x H' y
        rw [List.drop_eq_getElem_cons hlt, he] at a
        cases e1 : f d s with
        | none => simp only [forL, e1] at a; exact a.elim
        | some s1 =>
          simp only [forL, e1] at a
          refine ⟨Γ, cs, s, s1, U ++ T, d, F1, F2, hK, hM, noPk_app jo.np np, g1, e1, fun σ2 H2 cs2 F3 F4 g2 _ _ => TSt.go hK hM (noPk_app jo.np np) g2 ?_⟩
          cases e2 : b s1 with
          | none => rw [e2] at a; exact a.elim
          | some p =>
            rw [e2] at a
            obtain ⟨r, s'⟩ := p
            cases r with
            | err c v =>
              exact fun C d v σ H cs Fs Ft g => by
                obtain ⟨F5, g5⟩ := g.pop1
                exact a C d v σ H cs Fs F5 g5
            | ok fl => cases fl with
              | nx => exact fun σ H cs Fs Ft g => ⟨cs, Fs, Ft, s', g, a⟩
              | ct => exact fun σ H cs Fs Ft g => ⟨cs, Fs, Ft, s', g, a⟩
              | bk =>
                exact fun σ H cs Fs Ft g => by
                  obtain ⟨F5, g5, _⟩ := g.popU
                  exact a σ H cs Fs F5 g5
              | rt d =>
                exact fun v σ H cs Fs Ft g => by
                  obtain ⟨F5, g5⟩ := g.pop1
                  exact a v σ H cs Fs F5 g5
    | dyn n it =>
      dsimp only at a1
      refine ⟨(fun i k σ H => ∃ (cs Fs Ft : List Addr) (s : Sg), Good Γ cs H σ s.ρ s.μ (U ++ T) Fs Ft ∧ AfterS W Γ T D (forD f b it k i s)), ⟨n, cs1, Fs1, Ft1, s1, g1, a1⟩, ?_⟩
      rintro i k σ H ⟨cs, Fs, Ft, s, g, a⟩
      cases k with
      | zero => exact a.elim
      | succ k =>
        cases q : it s.μ i with
        | none =>
          refine .inl ⟨jo.stop Γ cs H σ _ _ T Fs Ft i hK hM g q rfl, ?_⟩
          simp only [forD, q] at a
          obtain ⟨F2, g2, _⟩ := g.popU
          exact a σ H cs Fs F2 g2
        | some d =>
          obtain ⟨hgo, hy⟩ := jo.go Γ cs H σ _ _ T Fs Ft i d hK hM g q
          refine .inr ⟨hgo, (fun σ H => ∃ (cs Fs Ft : List Addr) (s : Sg), Good Γ cs H σ s.ρ s.μ (U ++ T) Fs Ft ∧ AfterS W Γ T D (forD f b it k (i + 1) s)), fun σ' H' h => ⟨k, Nat.lt_succ_self k, h⟩, fun x H' y => ?_⟩
          obtain ⟨F1, F2, g1⟩ := hy x H' y
          cases e1 : f d s with
          | none => simp only [forD, q, e1] at a; exact a.elim
          | some s1 =>
            simp only [forD, q, e1] at a
            refine ⟨Γ, cs, s, s1, U ++ T, d, F1, F2, hK, hM, noPk_app jo.np np, g1, e1, fun σ2 H2 cs2 F3 F4 g2 _ _ => TSt.go hK hM (noPk_app jo.np np) g2 ?_⟩
            cases e2 : b s1 with
            | none => rw [e2] at a; exact a.elim
            | some p =>
              rw [e2] at a
              obtain ⟨r, s'⟩ := p
              cases r with
              | err c v =>
                exact fun C d v σ H cs Fs Ft g => by
                  obtain ⟨F5, g5⟩ := g.pop1
                  exact a C d v σ H cs Fs F5 g5
              | ok fl => cases fl with
                | nx => exact fun σ H cs Fs Ft g => ⟨cs, Fs, Ft, s', g, a⟩
                | ct => exact fun σ H cs Fs Ft g => ⟨cs, Fs, Ft, s', g, a⟩
                | bk =>
                  exact fun σ H cs Fs Ft g => by
                    obtain ⟨F5, g5, _⟩ := g.popU
                    exact a σ H cs Fs F5 g5
                | rt d =>
                  exact fun v σ H cs Fs Ft g => by
                    obtain ⟨F5, g5⟩ := g.pop1
                    exact a v σ H cs Fs F5 g5
    | str n it fin =>
      dsimp only at a1
      refine ⟨(fun i k σ H => ∃ (cs Fs Ft : List Addr) (s : Sg), Good Γ cs H σ s.ρ s.μ (U ++ T) Fs Ft ∧ AfterS W Γ T D (forG f b it fin k i s)), ⟨n, cs1, Fs1, Ft1, s1, g1, a1⟩, ?_⟩
      rintro i k σ H ⟨cs, Fs, Ft, s, g, a⟩
      cases k with
      | zero => exact a.elim
      | succ k =>
        cases q : it s.μ i with
        | none =>
          simp only [forG, q] at a
          cases qf : fin s.μ i with
          | false => rw [qf] at a; simp only [Bool.false_eq_true, if_false] at a; exact a.elim
          | true =>
          rw [qf, if_pos rfl] at a
          refine .inl ⟨jo.stop Γ cs H σ _ _ T Fs Ft i hK hM g q qf, ?_⟩
          obtain ⟨F2, g2, _⟩ := g.popU
          exact a σ H cs Fs F2 g2
        | some d =>
          obtain ⟨hgo, hy⟩ := jo.go Γ cs H σ _ _ T Fs Ft i d hK hM g q
          refine .inr ⟨hgo, (fun σ H => ∃ (cs Fs Ft : List Addr) (s : Sg), Good Γ cs H σ s.ρ s.μ (U ++ T) Fs Ft ∧ AfterS W Γ T D (forG f b it fin k (i + 1) s)), fun σ' H' h => ⟨k, Nat.lt_succ_self k, h⟩, fun x H' y => ?_⟩
          obtain ⟨F1, F2, g1⟩ := hy x H' y
          cases e1 : f d s with
          | none => simp only [forG, q, e1] at a; exact a.elim
          | some s1 =>
            simp only [forG, q, e1] at a
            refine ⟨Γ, cs, s, s1, U ++ T, d, F1, F2, hK, hM, noPk_app jo.np np, g1, e1, fun σ2 H2 cs2 F3 F4 g2 _ _ => TSt.go hK hM (noPk_app jo.np np) g2 ?_⟩
            cases e2 : b s1 with
            | none => rw [e2] at a; exact a.elim
            | some p =>
              rw [e2] at a
              obtain ⟨r, s'⟩ := p
              cases r with
              | err c v =>
                exact fun C d v σ H cs Fs Ft g => by
                  obtain ⟨F5, g5⟩ := g.pop1
                  exact a C d v σ H cs Fs F5 g5
              | ok fl => cases fl with
                | nx => exact fun σ H cs Fs Ft g => ⟨cs, Fs, Ft, s', g, a⟩
                | ct => exact fun σ H cs Fs Ft g => ⟨cs, Fs, Ft, s', g, a⟩
                | bk =>
                  exact fun σ H cs Fs Ft g => by
                    obtain ⟨F5, g5, _⟩ := g.popU
                    exact a σ H cs Fs F5 g5
                | rt d =>
                  exact fun v σ H cs Fs Ft g => by
                    obtain ⟨F5, g5⟩ := g.pop1
                    exact a v σ H cs Fs F5 g5
end
end DL
namespace DL
open PySem L2
/-! ### comprehensions -/
def strip : Tmp → Tmp
  | [] => []
  | (v, .val d) :: T => (v, .val d) :: strip T
  | (_, .pk _) :: T => strip T
theorem noPk_strip : ∀ T : Tmp, noPk (strip T) = true
  | [] => rfl
  | (v, .val d) :: T => noPk_strip T
  | (_, .pk _) :: T => noPk_strip T
def wipeE (ρ : Env) : List Nat → Env
  | [] => ρ
  | v :: vs => (wipeE ρ vs).set v none
section
variable {K : PySem.W.Frag} {mg : Str → Option Value} {cs B : List Addr} {H : Hp}
theorem Temps.strip {σ σ' : St} {T : Tmp} {F : List Addr} (h : Temps K mg cs B H σ T F) : Temps K mg cs B H σ' (strip T) F := by
  induction h with
  | nil => exact .nil
  | pk e _ ih => exact ih
  | val r _ ih => exact .val r ih
/-- T's looked-at slots stand so in σ -/
def pkOk (σ : St) : Tmp → Prop
  | [] => True
  | (_, .val _) :: T => pkOk σ T
  | (v, .pk i) :: T => σ[i]? = some (some v) ∧ pkOk σ T
theorem Temps.pkOk {σ : St} {T : Tmp} {F : List Addr} (h : Temps K mg cs B H σ T F) : pkOk σ T := by
  induction h with
  | nil => exact trivial
  | pk e _ ih => exact ⟨e, ih⟩
  | val r _ ih => exact ih
theorem Temps.unstrip {σ σ' : St} : ∀ {T : Tmp} {F : List Addr}, Temps K mg cs B H σ' (DL.strip T) F → DL.pkOk σ T → Temps K mg cs B H σ T F
  | [], F, h, _ => by cases h; exact .nil
  | (v, .val d) :: T, F, h, k => by
    cases h with
    | val r t => exact .val r (Temps.unstrip t k)
  | (v, .pk i) :: T, F, h, k => .pk k.1 (Temps.unstrip h k.2)
theorem Slots.wipe {σ : St} {ρ : Env} {F : List Addr} (h : Slots K mg cs B H σ ρ F) : ∀ vs : List Nat, ∃ G, Slots K mg cs B H (wipe σ vs) (wipeE ρ vs) G ∧ ∀ a, G.count a ≤ F.count a
  | [] => ⟨F, h, fun _ => Nat.le_refl _⟩
  | v :: vs => by
    obtain ⟨G, h1, c1⟩ := Slots.wipe h vs
    obtain ⟨G2, h2, c2⟩ := h1.drop v
    refine ⟨G2, ?_, fun a => Nat.le_trans (c2 a) (c1 a)⟩
    show Slots K mg cs B H ((L2.wipe σ vs).set v none) ((wipeE ρ vs).set v none) G2
    by_cases hv : v < (wipeE ρ vs).length
    · exact h2.any (by rw [List.getElem?_set_self hv]) none
    · rw [List.set_eq_of_length_le (by have := h1.len; omega)]
      exact h2
end
section
variable {K : PySem.W.Frag} {mg : Str → Option Value} {cs B : List Addr} {H : Hp}
theorem Slots.swap {σ : St} {ρ : Env} {F : List Addr} (h : Slots K mg cs B H σ ρ F) : ∀ {σ' : St}, σ'.length = σ.length → (∀ (i : Nat) (d : D), ρ[i]? = some (some d) → σ'[i]? = σ[i]?) → Slots K mg cs B H σ' ρ F := by
  induction h with
  | nil => intro σ' hl _; have : σ' = [] := by simpa using hl
           subst this; exact .nil
  | skip _ ih =>
    intro σ' hl hs
    cases σ' with
    | nil => simp at hl
    | cons x σ' => exact .skip (ih (by simpa using hl) fun i d e => by simpa using hs (i + 1) d (by simpa using e))
  | cons r _ ih =>
    intro σ' hl hs
    cases σ' with
    | nil => simp at hl
    | cons x σ' =>
      have h0 := hs 0 _ (by simp; rfl)
      simp at h0
      subst h0
      exact .cons r (ih (by simpa using hl) fun i d e => by simpa using hs (i + 1) d (by simpa using e))
theorem wipeE_length (ρ : Env) : ∀ vs : List Nat, (wipeE ρ vs).length = ρ.length
  | [] => rfl
  | v :: vs => by unfold wipeE; rw [List.length_set, wipeE_length ρ vs]
theorem wipeE_none {ρ : Env} {i : Nat} {d : D} : ∀ {vs : List Nat}, (wipeE ρ vs)[i]? = some (some d) → i ∉ vs
  | [], h => by simp
  | v :: vs, h => by
    unfold wipeE at h
    by_cases hi : v = i
    · subst hi
      by_cases hv : v < (wipeE ρ vs).length
      · rw [List.getElem?_set_self hv] at h; cases h
      · rw [List.getElem?_eq_none (by simpa using hv)] at h; cases h
    · rw [List.getElem?_set_ne hi] at h
      simp only [List.mem_cons, not_or]
      exact ⟨fun e => hi e.symm, wipeE_none h⟩
end
section
variable {Γ : Gm} {cs : List Addr} {H : Hp} {σ : St} {ρ : Env} {μ : Cells} {T U : Tmp} {Fs Ft : List Addr}
/-- into a block: the own slots and the looked-at temps are put aside -/
theorem Good.wipe (g : Good Γ cs H σ ρ μ T Fs Ft) (vs : List Nat) : ∃ Fs', Good Γ cs H (L2.wipe σ vs) (wipeE ρ vs) μ (strip T) Fs' Ft := by
  obtain ⟨G, sl, hc⟩ := g.sl.wipe vs
  refine ⟨G, Good.mk0 sl g.tm.strip g.ce (fun a h => ?_) (fun a => ?_) g.kp (fun a h => ?_) g.c1 g.c2 g.g0⟩
  · have := hc a
    simp only [List.mem_append, memc] at h ⊢
    omega
  · have := hc a; have := g.nd a; omega
  · refine g.fr a ?_
    have := hc a
    simp only [memc] at h ⊢
    omega
/-- .. and back -/
theorem Good.unwipe {vs : List Nat} {ρ0 : Env} (g : Good Γ cs H (L2.wipe σ vs) (wipeE ρ0 vs) μ (strip T) Fs Ft) (k : pkOk σ T) : Good Γ cs H σ (wipeE ρ0 vs) μ T Fs Ft :=
  ⟨g.sl.swap (by rw [wipe_length]) fun i d e => by rw [wipe_out (wipeE_none e)], g.tm.unstrip k, g.ce, g.nd, g.kp, g.fr, g.c1, g.c2, g.g0⟩
theorem strip_noPk : ∀ {T : Tmp}, noPk T = true → strip T = T
  | [], _ => rfl
  | (v, .val d) :: T, h => by rw [strip, strip_noPk (T := T) h]
  | (_, .pk _) :: _, h => by simp [noPk] at h
theorem strip_app : ∀ {T U : Tmp}, strip (T ++ U) = strip T ++ strip U
  | [], U => rfl
  | (v, .val d) :: T, U => by
    show (v, It.val d) :: strip (T ++ U) = _
    rw [strip_app]; rfl
  | (_, .pk _) :: T, U => by
    show strip (T ++ U) = _
    rw [strip_app]; rfl
theorem pkOk_app : ∀ {T U : Tmp}, pkOk σ (T ++ U) → noPk T = true → pkOk σ U
  | [], U, h, _ => h
  | (v, .val d) :: T, U, h, k => pkOk_app (T := T) h k
  | (_, .pk _) :: T, U, h, k => by simp [noPk] at k
/-- an owned list in hand grows -/
theorem Good.app {y : V} {d : D} {p : Addr} {ds : List D} (g : Good Γ cs H σ ρ μ ((y, .val d) :: (.ref p, .val (.lst true ds)) :: T) Fs Ft) :
    ∃ xs, H p = some (.lst xs) ∧ xs.length = ds.length ∧ ∃ Ft', Good Γ cs (upd H p (.lst (xs ++ [y]))) σ ρ μ ((.ref p, .val (.lst true (ds ++ [d]))) :: T) Fs Ft' := by
  have t := g.tm
  generalize hT : ((y, .val d) :: (.ref p, .val (.lst true ds)) :: T : Tmp) = T' at t
  cases t with
  | nil => cases hT
  | pk h t => cases hT
  | @val v1 d1 f1 T1 f1' r1 t1 =>
    cases hT
    generalize hT : ((.ref p, .val (.lst true ds)) :: T : Tmp) = T' at t1
    cases t1 with
    | nil => cases hT
    | pk h t => cases hT
    | @val v2 d2 f2 T2 f2' r2 t2 =>
      cases hT
      cases r2 with
      | @lstO _ xs _ f hp rs =>
        have nd := g.nd
        simp only [List.count_append, List.count_cons] at nd
        refine ⟨xs, hp, rs.length, p :: (f ++ f1) ++ f2', ?_⟩
        have s := Stp.write (o := .lst (xs ++ [y])) hp (B := Fs ++ (f1 ++ (p :: f ++ f2')) ++ cs ++ Γ.G) (by simp)
        have hB : ∀ a ∈ Fs ++ (p :: (f ++ f1) ++ f2') ++ cs ++ Γ.G, a ∈ Fs ++ (f1 ++ (p :: f ++ f2')) ++ cs ++ Γ.G ∨ H a = none := fun a h => .inl (by
          simp only [List.mem_append, List.mem_cons] at h ⊢
          rcases h with ((h | (h | h | h) | h) | h) | h <;> simp [h])
        have np : ∀ {l : List Addr}, l.count p = 0 → ∀ a ∈ l, a ∉ [p] := fun {l} hl a ha hm => by
          have : a = p := by simpa using hm
          subst this
          have := memc.mp ha
          omega
        have ndp := nd p
        simp only [beq_self_eq_true, if_true] at ndp
        have hs : Slots Γ.K Γ.mg cs (Fs ++ (p :: (f ++ f1) ++ f2') ++ cs ++ Γ.G) (upd H p (.lst (xs ++ [y]))) σ ρ Fs := g.sl.on s (fun _ _ e => e) hB (np (by omega))
        have hr : Reps Γ.K Γ.mg cs (Fs ++ (p :: (f ++ f1) ++ f2') ++ cs ++ Γ.G) (upd H p (.lst (xs ++ [y]))) xs ds f := rs.on s (fun _ _ e => e) hB (np (by omega))
        have hy : Rep Γ.K Γ.mg cs (Fs ++ (p :: (f ++ f1) ++ f2') ++ cs ++ Γ.G) (upd H p (.lst (xs ++ [y]))) y d f1 := r1.on s (fun _ _ e => e) hB (np (by omega))
        have ht : Temps Γ.K Γ.mg cs (Fs ++ (p :: (f ++ f1) ++ f2') ++ cs ++ Γ.G) (upd H p (.lst (xs ++ [y]))) σ T f2' := t2.on s (fun _ _ e => e) hB (np (by omega))
        have hce : CellsOk Γ.K Γ.mg cs (Fs ++ (p :: (f ++ f1) ++ f2') ++ cs ++ Γ.G) (upd H p (.lst (xs ++ [y]))) cs μ := g.ce.on s (fun _ _ e => e) hB (np (by omega))
        refine ⟨hs, .val (.lstO upd_same (hr.append (.one hy))) ht, hce, fun a => ?_, fun a o e h1 h2 => ?_, fun a h => ?_, g.c1, g.c2, g.g0⟩
        · have := nd a
          simp only [List.cons_append, List.count_cons, List.count_append]
          omega
        · have hk := g.kp a o e h1 h2
          rw [upd_ne]
          · exact hk
          · rintro rfl
            rcases g.fr a (.inr (by simp)) with z | z
            · exact h1 z
            · rw [e] at z; cases z
        · refine g.fr a ?_
          simp only [List.mem_append, List.mem_cons, List.cons_append] at h ⊢
          rcases h with h | h | (h | h) | h <;> simp [h]
end
/-! ### the comprehension -/
def compL (own : List Nat) (f : Tgt) (t : M Bool) (e : M It) : List D → List D → Sg → Option (List D × Sg)
  | [], acc, s => some (acc, s)
  | d :: r, acc, s => match f d s with
    | none => none
    | some s1 => match t s1 with
      | some (.ok false, s2) => compL own f t e r acc ⟨wipeE s2.ρ own, s2.μ⟩
      | some (.ok true, s2) => match e s2 with
        | some (.ok (.val y), s3) => compL own f t e r (acc ++ [y]) ⟨wipeE s3.ρ own, s3.μ⟩
        | _ => none
      | _ => none
def compD (own : List Nat) (f : Tgt) (t : M Bool) (e : M It) (it : Cells → Nat → Option D) : Nat → Nat → List D → Sg → Option (List D × Sg)
  | 0, _, _, _ => none
  | n + 1, i, acc, s => match it s.μ i with
    | none => some (acc, s)
    | some d => match f d s with
      | none => none
      | some s1 => match t s1 with
        | some (.ok false, s2) => compD own f t e it n (i + 1) acc ⟨wipeE s2.ρ own, s2.μ⟩
        | some (.ok true, s2) => match e s2 with
          | some (.ok (.val y), s3) => compD own f t e it n (i + 1) (acc ++ [y]) ⟨wipeE s3.ρ own, s3.μ⟩
          | _ => none
        | _ => none
def compG (own : List Nat) (f : Tgt) (t : M Bool) (e : M It) (it : Cells → Nat → Option D) (fin : Cells → Nat → Bool) : Nat → Nat → List D → Sg → Option (List D × Sg)
  | 0, _, _, _ => none
  | n + 1, i, acc, s => match it s.μ i with
    | none => if fin s.μ i = true then some (acc, s) else none
    | some d => match f d s with
      | none => none
      | some s1 => match t s1 with
        | some (.ok false, s2) => compG own f t e it fin n (i + 1) acc ⟨wipeE s2.ρ own, s2.μ⟩
        | some (.ok true, s2) => match e s2 with
          | some (.ok (.val y), s3) => compG own f t e it fin n (i + 1) (acc ++ [y]) ⟨wipeE s3.ρ own, s3.μ⟩
          | _ => none
        | _ => none
def comp (own : List Nat) (m : M Src) (f : Tgt) (t : M Bool) (e : M It) : M It := bnd m fun src s =>
  match src with
  | .fix items => if items.length ≤ sizeLine then
      match compL own f t e items [] ⟨wipeE s.ρ own, s.μ⟩ with
      | some (acc, s') => some (.ok (.val (.lst true acc)), s')
      | none => none
    else none
  | .dyn n it => if n ≤ sizeLine then
      match compD own f t e it n 0 [] ⟨wipeE s.ρ own, s.μ⟩ with
      | some (acc, s') => some (.ok (.val (.lst true acc)), s')
      | none => none
    else none
  | .str n it fin => if n ≤ sizeLine then
      match compG own f t e it fin n 0 [] ⟨wipeE s.ρ own, s.μ⟩ with
      | some (acc, s') => some (.ok (.val (.lst true acc)), s')
      | none => none
    else none
section
variable {X : Cx} {W : WX}
def tst1 : M Bool := ret true
theorem q0 : PTs X [] (TB X W tst1) := ⟨fun pins s σ H Q I ⟨Γ, cs, s', T, Fs, Ft, hK, hM, g, a⟩ => pts_nil.run pins s σ H Q I (a H cs Fs Ft g)⟩
theorem q1 {c : Expr} {m : M Bool} (h : PT X c (TB X W m)) : PTs X [c] (TB X W m) := pts_one h
theorem wipe_set {σ σ' : St} {vs ws : List Nat} (hl : σ'.length = σ.length) (hs : ∀ (j : Nat), j ∉ ws → σ'[j]? = (wipe σ vs)[j]?) (hw : ∀ j ∈ ws, j ∈ vs) : wipe σ' vs = wipe σ vs := by
  apply List.ext_getElem?
  intro i
  by_cases hi : i ∈ vs
  · have z : ∀ τ : St, τ.length = σ.length → (wipe τ vs)[i]? = if i < σ.length then some none else none := fun τ ht => by
      cases q : (wipe τ vs)[i]? with
      | none =>
        have : (wipe τ vs).length ≤ i := by simpa using q
        rw [wipe_length, ht] at this
        rw [if_neg (by omega)]
      | some x =>
        obtain ⟨hlt, _⟩ := List.getElem?_eq_some_iff.mp q
        rw [wipe_length, ht] at hlt
        rw [if_pos hlt]
        cases x with
        | none => rfl
        | some v => exact absurd hi (wipe_some q).2
    rw [z σ' hl, z σ rfl]
  · rw [wipe_out hi, hs i (fun h => hi (hw i h))]
theorem comp_go {own : List Nat} {m : M Src} {ws : List Nat} {f : Tgt} {t : M Bool} {e : M It} {σ : St} {H : Hp} {Q : VK} (hw : ws.all (own.contains ·) = true)
    (h : TD X W (comp own m f t e) σ H Q) : tLc (TIt X W m) (TGt X ws f) (TB X (fun _ _ _ _ => False) t) (TD X (fun _ _ _ _ => False) e) own σ H Q := by
  obtain ⟨Γ, cs, s, T, Fs, Ft, hK, hM, g, a⟩ := h
  refine ⟨Γ, cs, s, T, Fs, Ft, hK, hM, g, a.bnd.mono fun src s1 a1 J U H1 cs1 Fs1 Ft1 jo g1 D hD => ?_⟩
  have hw' : ∀ j ∈ ws, j ∈ own := fun j hj => by
    have := List.all_eq_true.mp hw j hj
    simpa using this
  -- into the block
  have pk := pkOk_app g1.tm.pkOk jo.np
  obtain ⟨F2, g2⟩ := g1.wipe own
  rw [strip_app, strip_noPk jo.np] at g2
  obtain ⟨F3, g3⟩ := Good.allocL (vs := []) (ds := []) (T := U ++ strip T) g2 rfl hD
  obtain ⟨F4, g4⟩ := g3.perm (U := U ++ ((.ref D, .val (.lst true [])) :: strip T)) List.perm_middle.symm
  -- a turn
  have turn : ∀ (cont : List DL.D → Sg → Option (List DL.D × Sg)) (accF : List DL.D) (sF : Sg) (i : Nat) (Nx : Hp → Prop) (cs Fs Ft : List Addr) (H : Hp) (ρ0 : Env) (μ : Cells) (acc : List DL.D) (d : DL.D), acc.length < sizeLine → Good Γ cs H (wipe σ own) (wipeE ρ0 own) μ (U ++ ((.ref D, .val (.lst true acc)) :: strip T)) Fs Ft →
      (match f d ⟨wipeE ρ0 own, μ⟩ with
        | none => none
        | some s1 => match t s1 with
          | some (.ok false, s2) => cont acc ⟨wipeE s2.ρ own, s2.μ⟩
          | some (.ok true, s2) => match e s2 with
            | some (.ok (.val y), s3) => cont (acc ++ [y]) ⟨wipeE s3.ρ own, s3.μ⟩
            | _ => none
          | _ => none) = some (accF, sF) →
      (∀ (H' : Hp) (cs' Fs' Ft' : List Addr) (ρ1 : Env) (μ1 : Cells) (acc' : List DL.D), acc'.length ≤ acc.length + 1 → Good Γ cs' H' (wipe σ own) (wipeE ρ1 own) μ1 (U ++ ((.ref D, .val (.lst true acc')) :: strip T)) Fs' Ft' → cont acc' ⟨wipeE ρ1 own, μ1⟩ = some (accF, sF) → Nx H') →
      ∀ x H', (∃ Fs' Ft', Good Γ cs H' (wipe σ own) (wipeE ρ0 own) μ ((x, .val d) :: (U ++ ((.ref D, .val (.lst true acc)) :: strip T))) Fs' Ft') →
        TGt X ws f x (wipe σ own) H' fun σ2 H2 => wipe σ2 own = wipe σ own ∧ TB X (fun _ _ _ _ => False) t σ2 H2 fun b H3 =>
          if b = true then TD X (fun _ _ _ _ => False) e σ2 H3 fun y H4 => ∃ acc, H4 D = some (.lst acc) ∧ acc.length < sizeLine ∧ Nx (upd H4 D (.lst (acc ++ [y]))) else Nx H3 := by
    intro cont accF sF i Nx cs Fs Ft H ρ0 μ acc d hlen g hc hN x H' ⟨F1, F2, g1⟩
    have nT : noPk (U ++ ((.ref D, .val (.lst true acc)) :: strip T)) = true := noPk_app jo.np (noPk_strip T)
    cases e1 : f d ⟨wipeE ρ0 own, μ⟩ with
    | none => rw [e1] at hc; cases hc
    | some s2 =>
      rw [e1] at hc
      dsimp only at hc
      refine ⟨Γ, cs, ⟨wipeE ρ0 own, μ⟩, s2, _, d, F1, F2, hK, hM, nT, g1, e1, fun σ2 H2 cs2 F3 F4 g2 l2 n2 => ?_⟩
      have hwp : wipe σ2 own = wipe σ own := wipe_set (by rw [l2, wipe_length]) n2 hw'
      have back : ∀ {H3 : Hp} {cs3 F5 F6 : List Addr} {s3 : Sg} {acc' : List DL.D}, Good Γ cs3 H3 σ2 s3.ρ s3.μ (U ++ ((.ref D, .val (.lst true acc')) :: strip T)) F5 F6 →
          ∃ F7, Good Γ cs3 H3 (wipe σ own) (wipeE s3.ρ own) s3.μ (U ++ ((.ref D, .val (.lst true acc')) :: strip T)) F7 F6 := fun {H3 cs3 F5 F6 s3 acc'} g => by
        obtain ⟨F7, g7⟩ := g.wipe own
        rw [hwp, strip_noPk (noPk_app jo.np (show noPk ((.ref D, .val (.lst true acc')) :: strip T) = true from noPk_strip T))] at g7
        exact ⟨F7, g7⟩
      refine ⟨hwp, TB.go hK hM g2 ?_⟩
      cases e2 : t s2 with
      | none => rw [e2] at hc; cases hc
      | some p =>
        obtain ⟨r, s3⟩ := p
        rw [e2] at hc
        cases r with
        | err c v => cases hc
        | ok b =>
          intro H3 cs3 F5 F6 g3
          cases b with
          | false =>
            rw [if_neg Bool.false_ne_true]
            obtain ⟨F7, g7⟩ := back g3
            exact hN H3 cs3 F7 F6 s3.ρ s3.μ acc (by omega) g7 hc
          | true =>
            rw [if_pos rfl]
            dsimp only at hc
            refine TD.go hK hM g3 ?_
            cases e3 : e s3 with
            | none => rw [e3] at hc; cases hc
            | some p =>
              obtain ⟨r, s4⟩ := p
              rw [e3] at hc
              cases r with
              | err c v => cases hc
              | ok it =>
                cases it with
                | pk j => cases hc
                | val dy =>
                  intro y H4 cs4 F7 F8 g4
                  obtain ⟨F9, g5⟩ := g4.perm (U := (y, .val dy) :: (.ref D, .val (.lst true acc)) :: (U ++ strip T)) (List.Perm.cons _ List.perm_middle)
                  obtain ⟨xs, hx, hxl, F10, g6⟩ := g5.app
                  refine ⟨xs, hx, by omega, ?_⟩
                  obtain ⟨F11, g7⟩ := g6.perm (U := U ++ ((.ref D, .val (.lst true (acc ++ [dy]))) :: strip T)) List.perm_middle.symm
                  obtain ⟨F12, g8⟩ := back g7
                  exact hN _ cs4 F12 F11 s4.ρ s4.μ (acc ++ [dy]) (by rw [List.length_append]; simp) g8 hc
  have fin : ∀ {cs Fs Ft : List Addr} {H : Hp} {ρ0 : Env} {μ : Cells} {acc : List DL.D}, Good Γ cs H (wipe σ own) (wipeE ρ0 own) μ (U ++ ((.ref D, .val (.lst true acc)) :: strip T)) Fs Ft → (∀ v H' cs' Fs' Ft', Good Γ cs' H' σ (wipeE ρ0 own) μ ((v, .val (.lst true acc)) :: T) Fs' Ft' → Q v H') → Q (.ref D) H := fun {cs Fs Ft H ρ0 μ acc} g a1 => by
    obtain ⟨F5, g5, _⟩ := g.popU
    exact a1 _ H cs Fs F5 (Good.unwipe (T := (.ref D, .val (.lst true acc)) :: T) g5 pk)
  cases src with
  | fix items =>
    dsimp only at a1
    split at a1
    · rename_i hz
      cases e0 : compL own f t e items [] ⟨wipeE s1.ρ own, s1.μ⟩ with
      | none => rw [e0] at a1; exact a1.elim
      | some p =>
        obtain ⟨accF, sF⟩ := p
        rw [e0] at a1
        refine ⟨fun i k H => k = items.length - i ∧ ∃ (cs Fs Ft : List Addr) (ρ0 : Env) (μ : Cells) (acc : List DL.D), acc.length ≤ i ∧ Good Γ cs H (wipe σ own) (wipeE ρ0 own) μ (U ++ ((.ref D, .val (.lst true acc)) :: strip T)) Fs Ft ∧
          compL own f t e (items.drop i) acc ⟨wipeE ρ0 own, μ⟩ = some (accF, sF), ⟨_, rfl, cs1, F2, F4, s1.ρ, s1.μ, [], Nat.le_refl _, g4, e0⟩, ?_⟩
        rintro i k H ⟨rfl, cs, Fs, Ft, ρ0, μ, acc, hacc, g, hc⟩
        cases q : items[i]? with
        | none =>
          have hl : items.length ≤ i := by simpa using q
          refine .inl ⟨jo.stop Γ cs H _ _ _ _ Fs Ft i hK hM g q rfl, ?_⟩
          rw [List.drop_eq_nil_of_le hl] at hc
          simp only [compL, Option.some.injEq, Prod.mk.injEq] at hc
          obtain ⟨rfl, rfl⟩ := hc
          exact fin g a1
        | some d =>
          obtain ⟨hlt, he⟩ := List.getElem?_eq_some_iff.mp q
          obtain ⟨hgo, hy⟩ := jo.go Γ cs H _ _ _ _ Fs Ft i d hK hM g q
          rw [List.drop_eq_getElem_cons hlt, he] at hc
          refine .inr ⟨hgo, (fun H => ∃ (cs Fs Ft : List Addr) (ρ0 : Env) (μ : Cells) (acc : List DL.D), acc.length ≤ i + 1 ∧ Good Γ cs H (wipe σ own) (wipeE ρ0 own) μ (U ++ ((.ref D, .val (.lst true acc)) :: strip T)) Fs Ft ∧
            compL own f t e (items.drop (i + 1)) acc ⟨wipeE ρ0 own, μ⟩ = some (accF, sF)), fun H' h => ⟨items.length - (i + 1), by omega, rfl, h⟩, fun x H' y => ?_⟩
          exact turn (compL own f t e (items.drop (i + 1))) accF sF i _ cs Fs Ft H ρ0 μ acc d (by omega) g hc (fun H' cs' Fs' Ft' ρ1 μ1 acc' hl g' hc' => ⟨cs', Fs', Ft', ρ1, μ1, acc', by omega, g', hc'⟩) x H' (hy x H' y)
    · exact a1.elim
  | dyn n it =>
    dsimp only at a1
    split at a1
    · rename_i hz
      cases e0 : compD own f t e it n 0 [] ⟨wipeE s1.ρ own, s1.μ⟩ with
      | none => rw [e0] at a1; exact a1.elim
      | some p =>
        obtain ⟨accF, sF⟩ := p
        rw [e0] at a1
        refine ⟨fun i k H => i + k = n ∧ ∃ (cs Fs Ft : List Addr) (ρ0 : Env) (μ : Cells) (acc : List DL.D), acc.length ≤ i ∧ Good Γ cs H (wipe σ own) (wipeE ρ0 own) μ (U ++ ((.ref D, .val (.lst true acc)) :: strip T)) Fs Ft ∧
          compD own f t e it k i acc ⟨wipeE ρ0 own, μ⟩ = some (accF, sF), ⟨n, by omega, cs1, F2, F4, s1.ρ, s1.μ, [], Nat.le_refl _, g4, e0⟩, ?_⟩
        rintro i k H ⟨hik, cs, Fs, Ft, ρ0, μ, acc, hacc, g, hc⟩
        cases k with
        | zero => cases hc
        | succ k =>
          cases q : it μ i with
          | none =>
            refine .inl ⟨jo.stop Γ cs H _ _ _ _ Fs Ft i hK hM g q rfl, ?_⟩
            simp only [compD, q, Option.some.injEq, Prod.mk.injEq] at hc
            obtain ⟨rfl, rfl⟩ := hc
            exact fin g a1
          | some d =>
            obtain ⟨hgo, hy⟩ := jo.go Γ cs H _ _ _ _ Fs Ft i d hK hM g q
            simp only [compD, q] at hc
            refine .inr ⟨hgo, (fun H => ∃ (cs Fs Ft : List Addr) (ρ0 : Env) (μ : Cells) (acc : List DL.D), acc.length ≤ i + 1 ∧ Good Γ cs H (wipe σ own) (wipeE ρ0 own) μ (U ++ ((.ref D, .val (.lst true acc)) :: strip T)) Fs Ft ∧
              compD own f t e it k (i + 1) acc ⟨wipeE ρ0 own, μ⟩ = some (accF, sF)), fun H' h => ⟨k, Nat.lt_succ_self k, by omega, h⟩, fun x H' y => ?_⟩
            exact turn (compD own f t e it k (i + 1)) accF sF i _ cs Fs Ft H ρ0 μ acc d (by omega) g hc (fun H' cs' Fs' Ft' ρ1 μ1 acc' hl g' hc' => ⟨cs', Fs', Ft', ρ1, μ1, acc', by omega, g', hc'⟩) x H' (hy x H' y)
    · exact a1.elim
  | str n it fn =>
    dsimp only at a1
    split at a1
    · rename_i hz
      cases e0 : compG own f t e it fn n 0 [] ⟨wipeE s1.ρ own, s1.μ⟩ with
      | none => rw [e0] at a1; exact a1.elim
      | some p =>
        obtain ⟨accF, sF⟩ := p
        rw [e0] at a1
        refine ⟨fun i k H => i + k = n ∧ ∃ (cs Fs Ft : List Addr) (ρ0 : Env) (μ : Cells) (acc : List DL.D), acc.length ≤ i ∧ Good Γ cs H (wipe σ own) (wipeE ρ0 own) μ (U ++ ((.ref D, .val (.lst true acc)) :: strip T)) Fs Ft ∧
          compG own f t e it fn k i acc ⟨wipeE ρ0 own, μ⟩ = some (accF, sF), ⟨n, by omega, cs1, F2, F4, s1.ρ, s1.μ, [], Nat.le_refl _, g4, e0⟩, ?_⟩
        rintro i k H ⟨hik, cs, Fs, Ft, ρ0, μ, acc, hacc, g, hc⟩
        cases k with
        | zero => cases hc
        | succ k =>
          cases q : it μ i with
          | none =>
            simp only [compG, q] at hc
            cases qf : fn μ i with
            | false => rw [qf] at hc; simp only [Bool.false_eq_true, if_false] at hc; cases hc
            | true =>
            rw [qf, if_pos rfl] at hc
            simp only [Option.some.injEq, Prod.mk.injEq] at hc
            refine .inl ⟨jo.stop Γ cs H _ _ _ _ Fs Ft i hK hM g q qf, ?_⟩
            obtain ⟨rfl, rfl⟩ := hc
            exact fin g a1
          | some d =>
            obtain ⟨hgo, hy⟩ := jo.go Γ cs H _ _ _ _ Fs Ft i d hK hM g q
            simp only [compG, q] at hc
            refine .inr ⟨hgo, (fun H => ∃ (cs Fs Ft : List Addr) (ρ0 : Env) (μ : Cells) (acc : List DL.D), acc.length ≤ i + 1 ∧ Good Γ cs H (wipe σ own) (wipeE ρ0 own) μ (U ++ ((.ref D, .val (.lst true acc)) :: strip T)) Fs Ft ∧
              compG own f t e it fn k (i + 1) acc ⟨wipeE ρ0 own, μ⟩ = some (accF, sF)), fun H' h => ⟨k, Nat.lt_succ_self k, by omega, h⟩, fun x H' y => ?_⟩
            exact turn (compG own f t e it fn k (i + 1)) accF sF i _ cs Fs Ft H ρ0 μ acc d (by omega) g hc (fun H' cs' Fs' Ft' ρ1 μ1 acc' hl g' hc' => ⟨cs', Fs', Ft', ρ1, μ1, acc', by omega, g', hc'⟩) x H' (hy x H' y)
    · exact a1.elim
theorem dLC {elt tg iter : Expr} {ifs : List Expr} {scope : Scope} {own : List (Str × Nat)} {pos : Pos} {m : M Src} {ws : List Nat} {f : Tgt} {t : M Bool} {e : M It} (hc : X.calm = true) (hN : X.N.Nodup) (hi : PI X tg iter (TIt X W m)) (ok : BlkOk X.N X.env.scope scope own)
    (hg : ∀ (s : Shared) (H : Hp) (C : Addr) (cl : List (Str × Addr)) (fp : List Addr), PG (X.blk s H scope (compEnvC scope cl C X.env) fp) tg (TGt X ws f)) (ht : ∀ (s : Shared) (H : Hp) (C : Addr) (cl : List (Str × Addr)) (fp : List Addr), PTs (X.blk s H scope (compEnvC scope cl C X.env) fp) ifs (TB X (fun _ _ _ _ => False) t))
    (he : ∀ (s : Shared) (H : Hp) (C : Addr) (cl : List (Str × Addr)) (fp : List Addr), PE (X.blk s H scope (compEnvC scope cl C X.env) fp) elt (TD X (fun _ _ _ _ => False) e)) (hw : ws.all ((own.map (·.2)).contains ·) = true := by rfl) (hs : ∀ x, foldedSetIterable iter X.env x = pure x := by intro _; rfl) :
    PE X (.ListComp elt [⟨tg, iter, ifs, 0⟩] scope pos) (TD X W (comp (own.map (·.2)) m f t e)) :=
  PE.imp (pe_lc hc hN hi ok hg ht he hs) fun σ H Q q => comp_go hw q
end
end DL
namespace DL
open PySem L2
open PyProof.Rows (envOfC)
/-! ### defs -/
abbrev Fn := List D → Cells → Option (R D × Cells)
def AfterF (Γ : Gm) (Q : VK) (E : XK) : Option (R D × Cells) → Prop
  | none => False
  | some (.ok d, μ) => ∀ v H cs Ft, Good Γ cs H [] [] μ [(v, .val d)] [] Ft → Q v H
  | some (.err c dv, μ) => ∀ (C d : Addr) (v : V) (H : Hp) (cs Ft : List Addr), Good Γ cs H [] [] μ [(v, .val dv)] [] Ft → dv.free = true → Γ.mg c = some (.ref C) → H d = some (.xd [(("value" : Str), v)]) → E (.ref C) (some d) H
/-- a def's promise: called with data it does what F says -/
def spD (K : PySem.W.Frag) (mg : Str → Option Value) (n : Nat) (F : Fn) : Sp := fun vs H Q E => ∃ (G cs : List Addr) (ds : List D) (μ : Cells) (Ft : List Addr), vs.length = n ∧ vs.length = ds.length ∧
  Good ⟨K, mg, G, H, Ft, cs⟩ cs H [] [] μ (vals vs ds) [] Ft ∧ AfterF ⟨K, mg, G, H, Ft, cs⟩ Q E (F ds μ)
def startE (n : Nat) (ds : List D) : Env := ds.map some ++ List.replicate (n - ds.length) none
/-- a body, as a def -/
def runB (n : Nat) (B : M Fl) : Fn := fun ds μ =>
  match B ⟨startE n ds, μ⟩ with
  | some (.ok .nx, s) => some (.ok .none, s.μ)
  | some (.ok (.rt d), s) => some (.ok d, s.μ)
  | some (.err c v, s) => some (.err c v, s.μ)
  | _ => none
section
variable {K : PySem.W.Frag} {mg : Str → Option Value} {cs B : List Addr} {H : Hp}
theorem Slots.nones : ∀ n : Nat, Slots K mg cs B H (List.replicate n none) (List.replicate n none) []
  | 0 => .nil
  | n + 1 => .skip (Slots.nones n)
theorem Slots.ofReps {vs : List V} {ds : List D} {f : List Addr} (h : Reps K mg cs B H vs ds f) (n : Nat) : Slots K mg cs B H (vs.map some ++ List.replicate n none) (ds.map some ++ List.replicate n none) f := by
  induction vs generalizing ds f with
  | nil => cases h; exact Slots.nones n
  | cons v vs ih =>
    cases h with
    | cons r t => exact .cons r (ih t)
end
section
variable {Γ : Gm} {cs : List Addr} {H : Hp} {σ : St} {ρ : Env} {μ : Cells} {T U : Tmp} {Fs Ft : List Addr}
theorem Good.noslots (g : Good Γ cs H σ ρ μ T Fs Ft) (n : noPk T = true) : Good Γ cs H [] [] μ T [] Ft :=
  Good.mk0 (B := Fs ++ Ft ++ cs ++ Γ.G) .nil (g.tm.other n) g.ce (fun a h => by
    simp only [List.mem_append] at h ⊢
    rcases h with h | h | h | h
    · nomatch h
    all_goals simp [h]) (fun a => by have := g.nd a; simp only [List.count_nil]; omega) g.kp (fun a h => g.fr a (h.elim (fun z => nomatch z) .inr)) g.c1 g.c2 g.g0
/-- into a call -/
theorem Good.enter {vs : List V} {ds : List D} {f f' : List Addr} (g : Good Γ cs H σ ρ μ (vals vs ds ++ T) Fs (f ++ f')) (r : Reps Γ.K Γ.mg cs (Fs ++ (f ++ f') ++ cs ++ Γ.G) H vs ds f) :
    Good ⟨Γ.K, Γ.mg, Fs ++ f' ++ Γ.G, H, f, cs⟩ cs H [] [] μ (vals vs ds) [] f := by
  have nd := g.nd
  simp only [List.count_append] at nd
  refine Good.mk0 (B := Fs ++ (f ++ f') ++ cs ++ Γ.G) .nil ?_ g.ce (fun a h => ?_) (fun a => ?_) (fun a o e _ _ => e) (fun a h => ?_) (fun _ _ e => e) (fun a h => .inl h) fun a h => ?_
  · have := Temps.of_reps (σ := ([] : St)) r (T := []) .nil
    simpa using this
  · simp only [List.mem_append] at h ⊢
    rcases h with h | h | h | ((h | h) | h)
    · nomatch h
    all_goals simp [h]
  · have := nd a
    simp only [List.count_nil, List.count_append]; omega
  · exact .inl (h.elim (fun z => nomatch z) id)
  · have hd := nd a
    have hm := h
    simp only [List.mem_append] at hm
    refine ⟨?_, fun z => ?_, fun z => ?_⟩
    · rcases hm with (hm | hm) | hm
      · obtain ⟨xs, e⟩ := g.sl.lists a hm; simp [e]
      · obtain ⟨xs, e⟩ := g.tm.lists a (List.mem_append_right _ hm); simp [e]
      · obtain ⟨h1, h2, h3⟩ := g.g0 a hm
        cases e : Γ.H0 a with
        | none => exact absurd e h1
        | some o =>
          have z := g.kp a o e h2 h3
          show H a ≠ none
          rw [z]; exact fun z => nomatch z
    · simp only [memc] at hm z; omega
    · simp only [memc] at hm z; omega
/-- .. and out of it -/
theorem Good.leave {vs : List V} {ds : List D} {f f' cs2 f2 : List Addr} {H2 : Hp} {μ2 : Cells} {v : V} {d : D} (g : Good Γ cs H σ ρ μ (vals vs ds ++ T) Fs (f ++ f')) (hl : vs.length = ds.length) (t : Temps Γ.K Γ.mg cs (Fs ++ (f ++ f') ++ cs ++ Γ.G) H σ T f')
    (r : Good ⟨Γ.K, Γ.mg, Fs ++ f' ++ Γ.G, H, f, cs⟩ cs2 H2 [] [] μ2 [(v, .val d)] [] f2) : Good Γ cs2 H2 σ ρ μ2 ((v, .val d) :: T) Fs (f2 ++ f') := by
  have nd := g.nd
  simp only [List.count_append] at nd
  have nd2 := r.nd
  simp only [List.count_append, List.count_nil] at nd2
  have al : ∀ a ∈ f, ∃ xs, H a = some (.lst xs) := fun a h => g.tm.lists a (List.mem_append_left _ h)
  have st : Stp H H2 (f ++ cs) (Fs ++ (f ++ f') ++ cs ++ Γ.G) := ⟨fun a o e h => by
    simp only [List.mem_append, not_or] at h
    exact r.kp a o e h.1 h.2, fun a h => by
    simp only [List.mem_append] at h ⊢
    rcases h with h | h
    · exact ⟨by simp [h], al a h⟩
    · exact ⟨by simp [h], g.ce.lists a h⟩⟩
  have hB : ∀ a ∈ Fs ++ (f2 ++ f') ++ cs2 ++ Γ.G, a ∈ Fs ++ (f ++ f') ++ cs ++ Γ.G ∨ H a = none := fun a h => by
    simp only [List.mem_append] at h ⊢
    rcases h with ((h | (h | h)) | h) | h
    · simp [h]
    · rcases r.fr a (.inr h) with z | z
      · have z : a ∈ f := z; simp [z]
      · exact .inr z
    · simp [h]
    · rcases r.c2 a h with z | z | z
      · have z : a ∈ cs := z; simp [z]
      · have z : a ∈ f := z; simp [z]
      · exact .inr z
    · simp [h]
  have t1 := r.tm
  generalize hT : ([(v, .val d)] : Tmp) = T' at t1
  cases t1 with
  | nil => cases hT
  | pk h t => cases hT
  | @val v1 d1 f1 T1 f1' r1 t3 =>
    cases hT
    cases t3
    rw [List.append_nil] at *
    have nf : ∀ a, a ∈ f ++ cs → a ∉ Fs ∧ a ∉ f' := fun a h => by
      have := nd a
      simp only [List.mem_append, memc] at h ⊢
      omega
    have rr : Rep Γ.K Γ.mg cs2 (Fs ++ (f1 ++ f') ++ cs2 ++ Γ.G) H2 v d f1 := r1.on (W := []) (Stp.refl H2 _) (fun _ _ e => e) (fun a h => .inl (by
      simp only [List.mem_append] at h ⊢
      rcases h with ((h | (h | h)) | h) | h <;> simp [h])) fun _ _ h => nomatch h
    have cc : CellsOk Γ.K Γ.mg cs2 (Fs ++ (f1 ++ f') ++ cs2 ++ Γ.G) H2 cs2 μ2 := r.ce.on (W := []) (Stp.refl H2 _) (fun _ _ e => e) (fun a h => .inl (by
      simp only [List.mem_append] at h ⊢
      rcases h with ((h | (h | h)) | h) | h <;> simp [h])) fun _ _ h => nomatch h
    have old : ∀ a, H a = none → a ∈ Γ.F0 ∨ Γ.H0 a = none := fun a h => by
      obtain ⟨_, _, n3, _, z | z | z⟩ := g.fresh h
      · exact .inl z
      · obtain ⟨k, hk⟩ := List.getElem?_of_mem z
        exact absurd (List.mem_of_getElem? (g.c1 k a hk)) n3
      · exact .inr z
    refine ⟨g.sl.on st r.c1 hB fun a h hm => (nf a hm).1 h, .val rr (t.on st r.c1 hB fun a h hm => (nf a hm).2 h), cc, fun a => ?_, fun a o e h1 h2 => ?_, fun a h => ?_, fun k a e => r.c1 k a (g.c1 k a e), fun a h => ?_, g.g0⟩
    · have := nd2 a
      simp only [List.count_append]; omega
    · refine r.kp a o (g.kp a o e h1 h2) (fun z => ?_) (fun z => ?_)
      · rcases g.fr a (.inr (List.mem_append_left _ z)) with q | q
        · exact h1 q
        · rw [e] at q; cases q
      · rcases g.c2 a z with q | q | q
        · exact h2 q
        · exact h1 q
        · rw [e] at q; cases q
    · rcases h with h | h
      · exact g.fr a (.inl h)
      · rcases List.mem_append.mp h with h | h
        · rcases r.fr a (.inr h) with z | z
          · exact g.fr a (.inr (List.mem_append_left _ z))
          · exact old a z
        · exact g.fr a (.inr (List.mem_append_right _ h))
    · rcases r.c2 a h with z | z | z
      · exact g.c2 a z
      · exact .inr (g.fr a (.inr (List.mem_append_left _ z)))
      · exact .inr (old a z)
end
section
variable {X : Cx} {W : WX}
/-- a call of a def -/
def call (F : Fn) (m : M (List It)) : M It := bnd m fun l s =>
  match vals? l with
  | some ds => match F ds s.μ with
    | some (.ok d, μ) => some (.ok (.val d), ⟨s.ρ, μ⟩)
    | some (.err c v, μ) => some (.err c v, ⟨s.ρ, μ⟩)
    | none => none
  | none => none
theorem call_go {n : Nat} {F : Fn} {m : M (List It)} {σ : St} {H : Hp} {Q : VK} (hn : ∀ l s s', m s = some (.ok l, s') → l.length = n) (h : TD X W (call F m) σ H Q) : tCallS (spD X.K X.mg n F) (WE W) (TAs X W m) σ H Q := by
  obtain ⟨Γ, cs, s, T, Fs, Ft, hK, hM, g, a⟩ := h
  refine TAs.go hK hM g ?_
  have a0 := a.bnd
  cases em : m s with
  | none => rw [em] at a0; exact a0.elim
  | some p =>
    rw [em] at a0
    obtain ⟨r, s1⟩ := p
    cases r with
    | err c v => exact a0
    | ok l =>
      have hln := hn l s s1 em
      intro vs H1 cs1 Fs1 Ft1 hl g1
      have a1 : After W Γ σ T _ (match vals? l with
        | some ds => match F ds s1.μ with
          | some (.ok d, μ) => some (.ok (It.val d), ⟨s1.ρ, μ⟩)
          | some (.err c v, μ) => some (.err c v, ⟨s1.ρ, μ⟩)
          | none => none
        | none => none) := a0
      cases ev : vals? l with
      | none => rw [ev] at a1; exact a1.elim
      | some ds =>
        have e' := vals_eq ev
        subst e'
        rw [ev] at a1
        have hl' : vs.length = ds.length := by simpa using hl
        obtain ⟨f, f', e2, r, t⟩ := Temps.to_reps hl' g1.tm
        subst e2
        have ge := g1.enter r
        rw [hK, hM] at ge
        refine ⟨Fs1 ++ f' ++ Γ.G, cs1, ds, s1.μ, f, by rw [hl']; simpa using hln, hl', ge, ?_⟩
        dsimp only at a1
        cases eF : F ds s1.μ with
        | none => rw [eF] at a1; exact a1.elim
        | some p =>
          obtain ⟨r2, μ2⟩ := p
          rw [eF] at a1
          cases r2 with
          | ok d =>
            intro v H2 cs2 f2 g2
            rw [← hK, ← hM] at g2
            exact a1 v H2 cs2 Fs1 (f2 ++ f') (g1.leave hl' t g2)
          | err c dv =>
            intro C d v H2 cs2 f2 g2 hf hm hd
            rw [← hK, ← hM] at g2
            exact a1 C d v H2 cs2 Fs1 (f2 ++ f') (g1.leave hl' t g2) hf (by rw [hM]; exact hm) hd
theorem argsC_len {n : Nat} {m : M It} {k : M (List It)} (h : ∀ l s s', k s = some (.ok l, s') → l.length = n) : ∀ l s s', argsC m k s = some (.ok l, s') → l.length = n + 1 := fun l s s' e => by
  unfold argsC bnd at e
  cases e1 : m s with
  | none => rw [e1] at e; cases e
  | some p =>
    rw [e1] at e
    obtain ⟨r, s1⟩ := p
    cases r with
    | err c v => cases e
    | ok i =>
      dsimp only at e
      cases e2 : k s1 with
      | none => rw [e2] at e; cases e
      | some p =>
        rw [e2] at e
        obtain ⟨r, s2⟩ := p
        cases r with
        | err c v => cases e
        | ok l2 =>
          cases e
          have := h l2 s1 _ e2
          simp [this]
theorem args0_len : ∀ l s s', args0 s = some (.ok l, s') → l.length = 0 := fun l s s' e => by cases e; rfl
end
/-! ### a def of the text, run where no repr is under way -/
structure FnG (P : Program) (w : World) (K : PySem.W.Frag) (mg : Str → Option Value) (base : Heap) (k : Nat) (f : Addr) (fd : FuncData) (ps : List Str) (F : Fn) : Prop where
  run : ∀ (A : Around) (outer : List PySem.Env) (s : Shared) (H : Hp) (args : Args) (us : List Value) (vs : List V) (Q : VK) (E : XK), A.guards = some [] → Room k A → Env0 P w K mg base A outer s H →
    BindsTo s fd args (ps.zip us) → Vals vs us → spD K mg ps.length F vs H Q E → codeAny (model P w) A (.call (.ref f) args) (CR (L2.CX P w) outer P w H s Q E) s
theorem FnG.mono {P : Program} {w : World} {K : PySem.W.Frag} {mg : Str → Option Value} {base : Heap} {j k : Nat} {f : Addr} {fd : FuncData} {ps : List Str} {F : Fn} (G : FnG P w K mg base j f fd ps F) (h : j ≤ k) : FnG P w K mg base k f fd ps F :=
  ⟨fun A outer s H args us vs Q E hg hr => G.run A outer s H args us vs Q E hg (hr.mono h)⟩
/-- another mirror that says as much -/
theorem FnG.imp {P : Program} {w : World} {K : PySem.W.Frag} {mg : Str → Option Value} {base : Heap} {k : Nat} {f : Addr} {fd : FuncData} {ps : List Str} {F F' : Fn} (G : FnG P w K mg base k f fd ps F) (h : ∀ ds μ r, F' ds μ = some r → F ds μ = some r) : FnG P w K mg base k f fd ps F' :=
  ⟨fun A outer s H args us vs Q E hg hr he hb hv ⟨G', cs, ds, μ, Ft, hl, hl2, g, a⟩ => G.run A outer s H args us vs Q E hg hr he hb hv ⟨G', cs, ds, μ, Ft, hl, hl2, g, by
    cases e : F' ds μ with
    | none => rw [e] at a; exact a.elim
    | some r => rw [e] at a; rw [h _ _ _ e]; exact a⟩⟩
section
variable {X : Cx} {W : WX}
theorem call_run {k : Nat} {f : Addr} {fd : FuncData} {ps : List Str} {F : Fn} {pins : List (Addr × Obj)} {σ : St} {H : Hp} {s : Shared} {Q : VK} {us : List Value} {vs : List V}
    (G : FnG X.prog X.w X.K X.mg X.base k f fd ps F) (hgd : X.A.guards = some []) (hr : Room k X.A) (hb : Binds X.K fd ps []) (hx : PassesAt (L2.CX X.prog X.w) X σ (WE W σ)) (I : Inv X pins σ H s) (r : Vals vs us)
    (h : spD X.K X.mg ps.length F vs H Q (WE W σ)) : wpAny (model X.prog X.w) X.A (PySem.call (.ref f) us) (EP X pins σ Q) X.xe s := by
  have hlen : vs.length = ps.length := by obtain ⟨_, _, _, _, _, e, _⟩ := h; exact e
  have bd : BindsTo s fd ⟨us, []⟩ (ps.zip us) := by
    have q := hb s us I.kIn (by simpa using r.length.symm.trans hlen)
    simpa using q
  refine wpAny_call (codeAny_mono (G.run X.A X.stack s H ⟨us, []⟩ us vs Q (WE W σ) hgd hr I.env0 bd r h) fun res s2 q => ?_)
  match res, q with
  | .error e, q => exact hx pins H s e s2 I q
  | .ok (.ret _), q => exact I.after q
theorem dF {k : Nat} {f : Addr} {fd : FuncData} {ps : List Str} {x : Str} {p pos : Pos} {e : Expr} {es : List Expr} {F : Fn} {m : M (List It)}
    (Fo : FnG X.prog X.w X.K X.mg X.base k f fd ps F) (hgd : X.A.guards = some []) (hr : Room k X.A) (hg : Gl X x) (hm : X.mg x = some (.ref f)) (hk : PySem.W.keepIn X.K (.ref f) = true) (hb : Binds X.K fd ps []) (hx : ∀ σ, PassesAt (L2.CX X.prog X.w) X σ (WE W σ))
    (ha : PA X (e :: es) (TAs X W m)) (hn : ∀ l s s', m s = some (.ok l, s') → l.length = ps.length) (hdb : (x == ("__debug__" : Str)) = false := by decide) (he : starEach (e :: es) X.env = (false, eval e X.env) :: starEach es X.env := by rfl) (hpl : (backTo pos (starEach es X.env)).any (·.1) = false := by rfl) :
    PE X (.Call (.Name x p) (e :: es) [] pos) (TD X W (call F m)) := by
  refine ⟨fun pins s σ H Q I h => ?_⟩
  have h1 : tCallS (spD X.K X.mg ps.length F) (WE W) (TAs X W m) σ H Q := call_go hn h
  refine wpAny_Call_Name_kw (ld_glob I hg hm ?_ hdb)
  refine PySem.W.callWith_K (h₀ := X.base) I.ok.mod.kin hk (thn (ha.run pos pins s σ H _ I h1) fun us s1 q => ?_) he hpl
  obtain ⟨vs, H1, I1, r, q⟩ := q
  exact ⟨I1.kIn, call_run Fo hgd hr hb (hx σ) I1 r q⟩
end
section
variable {P : Program} {w : World} {K : PySem.W.Frag} {mg : Str → Option Value} {base : Heap}
/-- the promise's start, over the def's slots -/
theorem start_good {N ps : List Str} {B : M Fl} {vs : List V} {H : Hp} {Q : VK} {E : XK} {X : Cx} (hK : X.K = K) (hM : X.mg = mg) (hps : ps.length ≤ N.length) (h : spD K mg ps.length (runB N.length B) vs H Q E) :
    TSt X (fun cls d _ H => E cls d H) B { nx := fun _ H' => Q .non H', rt := Q } (L2.start N vs) H := by
  obtain ⟨G, cs, ds, μ, Ft, hl, hl2, g, a⟩ := h
  obtain ⟨f1, f2, e, r, t⟩ := Temps.to_reps (T := []) hl2 (by simpa using g.tm)
  cases t
  rw [List.append_nil] at e
  subst e
  have g1 : Good ⟨K, mg, G, H, Ft, cs⟩ cs H (L2.start N vs) (startE N.length ds) μ [] Ft [] := by
    refine Good.mk0 (B := [] ++ Ft ++ cs ++ G) ?_ .nil g.ce (fun a h => ?_) (fun a => ?_) g.kp (fun a h => ?_) g.c1 g.c2 g.g0
    · unfold L2.start startE
      rw [hl2]
      exact Slots.ofReps (by simpa using r) _
    · simp only [List.mem_append] at h ⊢
      rcases h with h | h | h | h
      · simp [h]
      · nomatch h
      all_goals simp [h]
    · have := g.nd a; simp only [List.count_nil] at *; omega
    · exact g.fr a (h.elim .inr fun z => nomatch z)
  refine ⟨_, cs, ⟨startE N.length ds, μ⟩, [], Ft, [], hK.symm, hM.symm, rfl, g1, ?_⟩
  unfold runB at a
  cases eB : B ⟨startE N.length ds, μ⟩ with
  | none => rw [eB] at a; exact a.elim
  | some p =>
    rw [eB] at a
    obtain ⟨r, s'⟩ := p
    cases r with
    | err c dv => exact fun C d v σ H cs Fs Ft g hf hm hd => a C d v H cs Ft (g.noslots rfl) hf hm hd
    | ok fl =>
      cases fl with
      | nx => exact fun σ H cs Fs Ft g => a .non H cs Ft ((g.noslots rfl).push0 .none)
      | bk => exact a.elim
      | ct => exact a.elim
      | rt d => exact fun v σ H cs Fs Ft g => a v H cs Ft (g.noslots rfl)
/-- THE RULE for a def -/
theorem fnD {x qual : Str} {st : Stmt} {f : Addr} {fd : FuncData} {N ps : List Str} {k : Nat} {B : M Fl} (F : Fun K x qual st f fd) (S : FnScope N ps (defScope st))
    (hbody : ∀ (cdv : Value) (A : Around) (outer : List PySem.Env) (s : Shared) (H : Hp) (E : XK), Room k (A.deeper (envOfC qual (defScope st) s.heap.objs.size f cdv)) → A.guards = some [] →
      PSs (cxOf (L2.CX P w) P w K mg base N qual (defScope st) f cdv A outer s H E) (defBody st) (TSt (cxOf (L2.CX P w) P w K mg base N qual (defScope st) f cdv A outer s H E) (fun cls d _ H => E cls d H) B)) :
    FnG P w K mg base (k + 1) f fd ps (runB N.length B) := by
  refine ⟨fun A outer s H args us vs Q E hg hr e0 hb r hsp => ?_⟩
  obtain ⟨oc, od, kV, doc, pm, an, cdv, ct, osl, rfl, lk, hcd⟩ := F.ex
  have hps : ps.length ≤ N.length := by
    have z := congrArg List.length S.pre
    rw [List.length_take] at z
    omega
  have hlen : vs.length = ps.length := by obtain ⟨_, _, _, _, _, e, _⟩ := hsp; exact e
  have base_in : ∀ b o, base.get? b = some o → s.heap.get? b = some o := fun b o e => (e0.bs b o e).1
  refine codeAny_call_function hr.depth (e0.mod.kin.keeps base_in _ _ lk) rfl S.co S.gen rfl (PySem.W.codeRec_of (e0.mod.kin.keeps base_in) hcd) (hb _ _ _ _ ?_)
  refine wpAny_newFunctionEnv_cells S.kind (fun y hy => ?_) fun env he s1 x1 => ?_
  · obtain ⟨n, v⟩ := y
    exact (S.par n (List.of_mem_zip hy).1).elim .inl fun q => .inr ⟨q, PySem.W.cellsFrom_some _ _ _ (.inl q)⟩
  · subst he
    refine ⟨(e0.mod.nolimit.keeps base_in).keeps x1.toInCall.keep, codeAny_func ?_⟩
    have J := inv_start (CX := L2.CX P w) (E := E) S hr.hd e0 hlen r x1
    have body := hbody cdv A outer s H E (hr.deeper _) hg
    refine wpAny_mono (body.run [] s1 (L2.start N vs) H _ J (start_good rfl rfl hps hsp)) (fun fl s2 q => ?_) fun _ _ q => q
    match fl, q with
    | .ret u, ⟨v, σ2, H2, J2, rv, q2⟩ => exact ⟨v, H2, J2.os, J2.bare, J2.base, J2.hok, rv, q2⟩
    | .next, ⟨σ2, H2, J2, q2⟩ => exact ⟨.non, H2, J2.os, J2.bare, J2.base, J2.hok, rfl, q2⟩
    | .brk, ⟨_, _, _, q2⟩ => exact False.elim q2
    | .cont, ⟨_, _, _, q2⟩ => exact False.elim q2
end
end DL
namespace DL
open PySem L2
/-! ### plain data -/
mutual
def D.py : D → PyData
  | .bool b => .bool b
  | .int i => .int i
  | .str x => .str x
  | .lst _ xs => .list (D.pys xs)
  | .frz xs => .list (D.pys xs)
  | .tup xs => .tuple (D.pys xs)
  | .dic _ _ => .dict []
  | _ => .none
def D.pys : List D → List PyData
  | [] => []
  | d :: ds => d.py :: D.pys ds
end
mutual
/-- plain data of at most n levels -/
def D.low : Nat → D → Bool
  | _, .none => true
  | _, .bool _ => true
  | _, .int _ => true
  | _, .str x => x.cps.all (· < 0x110000)
  | n + 1, .lst _ xs => D.lows n xs
  | n + 1, .frz xs => D.lows n xs
  | n + 1, .tup xs => D.lows n xs
  | _, _ => false
def D.lows : Nat → List D → Bool
  | _, [] => true
  | n, d :: ds => D.low n d && D.lows n ds
end

theorem D.lows_iff (n : Nat) (ds : List D) : D.lows n ds = true ↔ ∀ d ∈ ds, D.low n d = true := by
  induction ds with
  | nil => simp [D.lows]
  | cons d ds ih => simp [D.lows, ih]
theorem D.pys_map (ds : List D) : D.pys ds = ds.map D.py := by
  induction ds with
  | nil => rfl
  | cons d ds ih => simp [D.pys, ih]
section
variable {K : PySem.W.Frag} {mg : Str → Option Value} {cs B : List Addr} {H : Hp}
mutual
theorem Rep.dp : ∀ (n : Nat) {v : V} {d : D} {f : List Addr}, Rep K mg cs B H v d f → D.low n d = true → Dp K H v d.py
  | _, _, _, _, .none, _ => .non
  | _, _, _, _, .bool b, _ => .bl b
  | _, _, _, _, .int i, _ => .int i
  | _, _, _, _, .str x, _ => .str x
  | 0, _, _, _, .frz h r, e => by simp [D.low] at e
  | n + 1, _, _, _, .frz h r, e => by
    simp only [D.low] at e
    simp only [D.py]
    exact .lst (h.elim .inr fun ⟨o, q⟩ => .inl (.inr ⟨o, q⟩)) (Reps.dp n r e)
  | 0, _, _, _, .lstS h _ r, e => by simp [D.low] at e
  | n + 1, _, _, _, .lstS h _ r, e => by
    simp only [D.low] at e
    simp only [D.py]
    exact .lst (.of h) (Reps.dp n r e)
  | 0, _, _, _, .lstO h r, e => by simp [D.low] at e
  | n + 1, _, _, _, .lstO h r, e => by
    simp only [D.low] at e
    simp only [D.py]
    exact .lst (.of h) (Reps.dp n r e)
  | 0, _, _, _, .tup h r, e => by simp [D.low] at e
  | n + 1, _, _, _, .tup h r, e => by
    simp only [D.low] at e
    simp only [D.py]
    exact .tup h (Reps.dp n r e)
  | n, _, _, _, .dic _ _, e => by cases n <;> simp [D.low] at e
  | n, _, _, _, .cell _, e => by cases n <;> simp [D.low] at e
  | n, _, _, _, .exc _ _ _ _, e => by cases n <;> simp [D.low] at e
  | n, _, _, _, .fn _, e => by cases n <;> simp [D.low] at e
  | n, _, _, _, .ty _, e => by cases n <;> simp [D.low] at e
theorem Reps.dp : ∀ (n : Nat) {vs : List V} {ds : List D} {f : List Addr}, Reps K mg cs B H vs ds f → D.lows n ds = true → DpAll K H vs (D.pys ds)
  | _, _, _, _, .nil, _ => .nil
  | n, _, _, _, .cons r t, e => by
    simp only [D.lows, Bool.and_eq_true] at e
    exact .cons (Rep.dp n r e.1) (Reps.dp n t e.2)
end
mutual
theorem D.low_depth : ∀ (n : Nat) (d : D), D.low n d = true → d.py.depth ≤ n ∧ d.py.canLay0 = true
  | n, .none, _ => by simp [D.py, PyData.depth, PyData.canLay0]
  | n, .bool _, _ => by simp [D.py, PyData.depth, PyData.canLay0]
  | n, .int _, _ => by simp [D.py, PyData.depth, PyData.canLay0]
  | n, .str x, e => by
    have e' : x.cps.all (· < 0x110000) = true := by cases n <;> simpa [D.low] using e
    simp only [D.py, PyData.depth, PyData.canLay0]
    exact ⟨Nat.zero_le _, e'⟩
  | 0, .lst _ _, e => by simp [D.low] at e
  | 0, .frz _, e => by simp [D.low] at e
  | 0, .tup _, e => by simp [D.low] at e
  | n + 1, .lst _ xs, e => by
    simp only [D.low] at e
    have := D.lows_depth n xs e
    simp only [D.py, PyData.depth, PyData.canLay0]
    exact ⟨by omega, this.2⟩
  | n + 1, .frz xs, e => by
    simp only [D.low] at e
    have := D.lows_depth n xs e
    simp only [D.py, PyData.depth, PyData.canLay0]
    exact ⟨by omega, this.2⟩
  | n + 1, .tup xs, e => by
    simp only [D.low] at e
    have := D.lows_depth n xs e
    simp only [D.py, PyData.depth, PyData.canLay0]
    exact ⟨by omega, this.2⟩
  | n, .dic _ _, e => by cases n <;> simp [D.low] at e
  | n, .cell _, e => by cases n <;> simp [D.low] at e
  | n, .exc _ _, e => by cases n <;> simp [D.low] at e
  | n, .fn _, e => by cases n <;> simp [D.low] at e
  | n, .ty _, e => by cases n <;> simp [D.low] at e
theorem D.lows_depth : ∀ (n : Nat) (ds : List D), D.lows n ds = true → PyData.depthAll (D.pys ds) ≤ n ∧ PyData.canLayAll0 (D.pys ds) = true
  | n, [], _ => by simp [D.pys, PyData.depthAll, PyData.canLayAll0]
  | n, d :: ds, e => by
    simp only [D.lows, Bool.and_eq_true] at e
    have h1 := D.low_depth n d e.1
    have h2 := D.lows_depth n ds e.2
    simp only [D.pys, PyData.depthAll, PyData.canLayAll0, Bool.and_eq_true]
    exact ⟨by omega, h1.2, h2.2⟩
end
theorem D.shaped {n : Nat} (hn : n ≤ 64) {d : D} (h : D.low n d = true) : SeqAt.shaped d.py = true := by
  have := D.low_depth n d h
  unfold SeqAt.shaped
  rw [Bool.and_eq_true]
  exact ⟨this.2, decide_eq_true (by omega)⟩
end
/-! ### operations by values -/
section
variable {X : Cx}
theorem OpR.or {f : Value → Value → Sem Value} {r r' : R2} (h : OpR X f r) (h' : OpR X f r') : OpR X f (fun x y H Q => r x y H Q ∨ r' x y H Q) := fun pins s σ H x y v u Q I rx ry q => q.elim (h pins s σ H x y v u Q I rx ry) (h' pins s σ H x y v u Q I rx ry)
theorem CallR.or {f : Value} {r r' : List V → Hp → VK → Prop} (h : CallR X f r) (h' : CallR X f r') : CallR X f (fun x H Q => r x H Q ∨ r' x H Q) := fun pins s σ H x v Q I rx q => q.elim (h pins s σ H x v Q I rx) (h' pins s σ H x v Q I rx)
/-- + -/
def addD : D → D → Option D
  | .int i, .int j => some (.int (i + j))
  | .str x, .str y => if x.length + y.length ≤ sizeLine then some (.str (x ++ y)) else none
  | .lst _ xs, .lst _ ys => if xs.length + ys.length ≤ sizeLine then some (.lst true (xs ++ ys)) else none
  | .tup xs, .tup ys => if xs.length + ys.length ≤ sizeLine then some (.tup (xs ++ ys)) else none
  | _, _ => none
def rAddD (K : PySem.W.Frag) : R2 := fun x y H Q => rI0 (fun i j => .int (i + j)) x y H Q ∨ (∃ i j, x = .str i ∧ y = .str j ∧ i.length + j.length ≤ sizeLine ∧ Q (.str (i ++ j)) H) ∨ rCat x y H Q ∨ rCatA K x y H Q
theorem or_add : OpR X (binaryOp .Add) (rAddD X.K) := OpR.or op_add (OpR.or op_add_str (OpR.or op_cat op_catA))
theorem Rep.lstT {K : PySem.W.Frag} {mg : Str → Option Value} {cs B : List Addr} {H : Hp} {v : V} {o : Bool} {ds : List D} (r : Rep K mg cs B H v (.lst o ds) []) : ∃ a xs, v = .ref a ∧ H a = some (.lst xs) ∧ Reps K mg cs B H xs ds [] := by
  cases r with
  | lstS h _ r => exact ⟨_, _, rfl, h, r⟩
theorem oc_add : OpC X (rAddD X.K) addD := by
  intro cs B H x y d e z Q rx ry hz k
  unfold addD at hz
  split at hz
  · cases hz
    cases rx.un (by nofun); cases ry.un (by nofun)
    exact .inl ⟨_, _, rfl, rfl, k _ _ (.old (.int _))⟩
  · split at hz
    · rename_i hl
      cases hz
      cases rx.un (by nofun); cases ry.un (by nofun)
      exact .inr (.inl ⟨_, _, rfl, rfl, hl, k _ _ (.old (.str _))⟩)
    · cases hz
  · split at hz
    · rename_i hl
      cases hz
      obtain ⟨a, xs, rfl, h1, r1⟩ := rx.lstT
      obtain ⟨b, ys, rfl, h2, r2⟩ := ry.lstT
      refine .inr (.inr (.inl ⟨a, b, xs, ys, rfl, rfl, h1, h2, by rw [r1.length, r2.length]; exact hl, fun p hp => k _ _ (.lst hp ?_)⟩))
      simpa using r1.append r2
    · cases hz
  · split at hz
    · rename_i hl
      cases hz
      obtain ⟨a, xs, rfl, h1, r1⟩ := ((rx.un (by nofun)).seq).2 _ rfl
      obtain ⟨b, ys, rfl, h2, r2⟩ := ((ry.un (by nofun)).seq).2 _ rfl
      refine .inr (.inr (.inr ⟨a, b, xs, ys, rfl, rfl, h1, h2, by rw [r1.length, r2.length]; exact hl, fun e => ?_, fun _ e => ?_, fun _ _ p hp => k _ _ (.tup hp (by simpa using r1.append r2))⟩))
      · subst e
        cases r1
        exact k _ _ (.old (ry.un (by nofun)))
      · subst e
        cases r2
        rw [List.append_nil] at k
        exact k _ _ (.old (rx.un (by nofun)))
    · cases hz
  · cases hz
/-- - // % on ints -/
def subD : D → D → Option D
  | .int i, .int j => some (.int (i - j))
  | _, _ => none
theorem oc_sub : OpC X (rI0 fun i j => .int (i - j)) subD := by
  intro cs B H x y d e z Q rx ry hz k
  unfold subD at hz
  split at hz
  · cases hz
    cases rx.un (by nofun); cases ry.un (by nofun)
    exact ⟨_, _, rfl, rfl, k _ _ (.old (.int _))⟩
  · cases hz
def modD : D → D → Option D
  | .int i, .int j => if j = 0 then none else some (.int (i.fmod j))
  | _, _ => none
theorem oc_mod : OpC X (rI (fun _ j => j ≠ 0) fun i j => .int (i.fmod j)) modD := by
  intro cs B H x y d e z Q rx ry hz k
  unfold modD at hz
  split at hz
  · split at hz
    · cases hz
    · rename_i hj
      cases hz
      cases rx.un (by nofun); cases ry.un (by nofun)
      exact ⟨_, _, rfl, rfl, hj, k _ _ (.old (.int _))⟩
  · cases hz
def divD : D → D → Option D
  | .int i, .int j => if j ≠ 0 ∧ j.natAbs < 1073741824 then some (.int (i.fdiv j)) else none
  | _, _ => none
theorem oc_div : OpC X (rI CDivN fun i j => .int (i.fdiv j)) divD := by
  intro cs B H x y d e z Q rx ry hz k
  unfold divD at hz
  split at hz
  · split at hz
    · rename_i hj
      cases hz
      cases rx.un (by nofun); cases ry.un (by nofun)
      exact ⟨_, _, rfl, rfl, hj, k _ _ (.old (.int _))⟩
    · cases hz
  · cases hz
/-- * -/
def mulOk (i j : Int) : Bool := (decide (-(2 ^ 64) < i) && decide (i < 2 ^ 64)) || (decide (-(2 ^ 64) < j) && decide (j < 2 ^ 64))
def mulD : D → D → Option D
  | .int i, .int j => if mulOk i j then some (.int (i * j)) else none
  | .lst _ xs, .int k => if small62 k && decide (xs.length * k.toNat ≤ sizeLine) then some (.lst true (List.replicate k.toNat xs).flatten) else none
  | _, _ => none
def rMulD : R2 := fun x y H Q => rI CMul (fun i j => .int (i * j)) x y H Q ∨ rRep x y H Q
theorem or_mul : OpR X (binaryOp .Mult) rMulD := OpR.or op_mul op_rep
theorem Reps.rep {K : PySem.W.Frag} {mg : Str → Option Value} {cs B : List Addr} {H : Hp} {vs : List V} {ds : List D} (r : Reps K mg cs B H vs ds []) : ∀ n : Nat, Reps K mg cs B H (List.replicate n vs).flatten (List.replicate n ds).flatten []
  | 0 => .nil
  | n + 1 => by
    rw [List.replicate_succ, List.replicate_succ, List.flatten_cons, List.flatten_cons]
    simpa using r.append (Reps.rep r n)
theorem oc_mul : OpC X rMulD mulD := by
  intro cs B H x y d e z Q rx ry hz k
  unfold mulD at hz
  split at hz
  · split at hz
    · rename_i hj
      cases hz
      cases rx.un (by nofun); cases ry.un (by nofun)
      refine .inl ⟨_, _, rfl, rfl, ?_, k _ _ (.old (.int _))⟩
      unfold mulOk at hj
      simp only [Bool.or_eq_true, Bool.and_eq_true, decide_eq_true_eq] at hj
      exact hj
    · cases hz
  · split at hz
    · rename_i hj
      cases hz
      rw [Bool.and_eq_true, decide_eq_true_eq] at hj
      obtain ⟨a, xs, rfl, h1, r1⟩ := rx.lstT
      cases ry.un (by nofun)
      obtain ⟨h2, h3⟩ := small62_le hj.1
      exact .inr ⟨a, _, xs, rfl, rfl, h1, by omega, by omega, by rw [r1.length]; exact hj.2, fun p hp => k _ _ (.lst hp (r1.rep _))⟩
    · cases hz
  · cases hz
/-- powers of written numbers -/
def rPowD : R2 := rI (fun i j => 0 ≤ j ∧ (Builtin.Int.intBits i : Int) * j ≤ 2 ^ 27) fun i j => .int (i ^ j.toNat)
theorem or_pow : OpR X (binaryOp .Pow) rPowD := opI fun _ _ _ _ _ _ _ hc q => PyProof.Rows.pow_int hc.1 hc.2 q
def powD : D → D → Option D
  | .int i, .int j => if 0 ≤ j ∧ (Builtin.Int.intBits i : Int) * j ≤ 2 ^ 27 then some (.int (i ^ j.toNat)) else none
  | _, _ => none
theorem oc_pow : OpC X rPowD powD := by
  intro cs B H x y d e z Q rx ry hz k
  unfold powD at hz
  split at hz
  · split at hz
    · rename_i hj
      cases hz
      cases rx.un (by nofun); cases ry.un (by nofun)
      exact ⟨_, _, rfl, rfl, hj, k _ _ (.old (.int _))⟩
    · cases hz
  · cases hz
/-- -x -/
def UnC (X : Cx) (r : V → Hp → VK → Prop) (op : D → Option D) : Prop :=
  ∀ (H : Hp) (x : V) (d z : D) (Q : VK), Scal x d → op d = some z → (∀ v, Scal v z → Q v H) → r x H Q
def negD : D → Option D
  | .int i => some (.int (-i))
  | _ => none
theorem uc_neg : UnC X (rU fun i => .int (-i)) negD := by
  intro H x d z Q rx hz k
  unfold negD at hz
  split at hz
  · cases hz
    cases rx
    exact ⟨_, rfl, k _ (.int _)⟩
  · cases hz
def unM (op : D → Option D) (m : M It) : M It := bnd m fun i s =>
  match i.at s.ρ with
  | some (.int k) => match op (.int k) with
    | some z => some (.ok (.val z), s)
    | none => none
  | _ => none
theorem dU {W : WX} {op : UnaryOp} {a : Expr} {r : V → Hp → VK → Prop} {o : D → Option D} {m : M It} {pos : Pos} (ho : UnR X (unaryOp op) r) (od : UnC X r o) (hs : ∀ (k : Int) z, o (.int k) = some z → ∃ v, Scal v z) (h : PE X a (TD X W m)) : PE X (.UnaryOp op a pos) (TD X W (unM o m)) :=
  PE.imp (pe_un ho h) fun σ H Q ⟨Γ, cs, s, T, Fs, Ft, hK, hM, g, a⟩ => TD.go hK hM g (a.bnd.mono fun i s1 a1 v1 H1 cs1 Fs1 Ft1 g1 => by
    split at a1
    · rename_i k hk
      split at a1
      · rename_i z hz
        obtain ⟨f, r1⟩ := g1.look hk
        obtain ⟨Ft2, g2⟩ := g1.pop
        cases r1
        exact od H1 _ _ z Q (.int _) hz fun v hv => a1 _ H1 cs1 Fs1 Ft2 (g2.push0 hv.rep)
      · exact a1.elim
    · exact a1.elim)
theorem dNeg {W : WX} {a : Expr} {m : M It} {pos : Pos} (h : PE X a (TD X W m)) : PE X (.UnaryOp .USub a pos) (TD X W (unM negD m)) := dU un_neg uc_neg (fun k z e => by cases e; exact ⟨_, .int _⟩) h
/-! ### comparisons -/
def eqD (d e : D) : Option D := if D.low 60 d && D.low 60 e then some (.bool (PyData.eqv d.py e.py)) else none
def neD (d e : D) : Option D := if D.low 60 d && D.low 60 e then some (.bool (!PyData.eqv d.py e.py)) else none
end
end DL
namespace DL
open PySem L2
section
variable {X : Cx}
theorem oi_eq : OpI X (rEqD X.K) eqD := by
  intro cs B H x y d e z f g Q rx ry hz k
  unfold eqD at hz
  split at hz
  · rename_i h
    rw [Bool.and_eq_true] at h
    cases hz
    exact ⟨_, _, rx.dp 60 h.1, ry.dp 60 h.2, D.shaped (by decide) h.1, D.shaped (by decide) h.2, k _ (.bool _)⟩
  · cases hz
theorem oi_ne : OpI X (rNeD X.K) neD := by
  intro cs B H x y d e z f g Q rx ry hz k
  unfold neD at hz
  split at hz
  · rename_i h
    rw [Bool.and_eq_true] at h
    cases hz
    exact ⟨_, _, rx.dp 60 h.1, ry.dp 60 h.2, D.shaped (by decide) h.1, D.shaped (by decide) h.2, k _ (.bool _)⟩
  · cases hz
/-- a list of ints within data -/
def intsD : List D → Option (List Int)
  | [] => some []
  | .int i :: r => (intsD r).map (i :: ·)
  | _ => none
theorem intsD_eq : ∀ {ds : List D} {ns : List Int}, intsD ds = some ns → ds = ns.map .int
  | [], ns, h => by cases h; rfl
  | .int i :: r, ns, h => by
    simp only [intsD, Option.map_eq_some_iff] at h
    obtain ⟨l, h1, rfl⟩ := h
    rw [intsD_eq h1]; rfl
  | .none :: _, _, h => by cases h
  | .bool _ :: _, _, h => by cases h
  | .str _ :: _, _, h => by cases h
  | .lst _ _ :: _, _, h => by cases h
  | .frz _ :: _, _, h => by cases h
  | .tup _ :: _, _, h => by cases h
  | .dic _ _ :: _, _, h => by cases h
  | .cell _ :: _, _, h => by cases h
  | .exc _ _ :: _, _, h => by cases h
  | .fn _ :: _, _, h => by cases h
  | .ty _ :: _, _, h => by cases h
theorem intsD_map (ns : List Int) : intsD (ns.map .int) = some ns := by
  induction ns with
  | nil => rfl
  | cons n ns ih => simp [intsD, ih]
theorem Reps.ints {K : PySem.W.Frag} {mg : Str → Option Value} {cs B : List Addr} {H : Hp} : ∀ {ns : List Int} {vs : List V} {f : List Addr}, Reps K mg cs B H vs (ns.map .int) f → vs = ns.map V.int
  | [], _, _, h => by cases h; rfl
  | n :: ns, _, _, h => by
    rw [List.map_cons] at h
    cases h with
    | cons r t => cases r; rw [Reps.ints t]; rfl
/-- < <= > >= : ints; < of tuples of ints -/
def cmpI (p : Int → Int → Bool) : D → D → Option D
  | .int i, .int j => some (.bool (p i j))
  | _, _ => none
theorem oi_int {p : Int → Int → Bool} : OpI X (rI0 fun i j => .bl (p i j)) (cmpI p) := by
  intro cs B H x y d e z f g Q rx ry hz k
  unfold cmpI at hz
  split at hz
  · cases hz
    cases rx; cases ry
    exact ⟨_, _, rfl, rfl, k _ (.bool _)⟩
  · cases hz
def ltD : D → D → Option D
  | .int i, .int j => some (.bool (decide (i < j)))
  | .tup xs, .tup ys => match intsD xs, intsD ys with
    | some ns, some ms => some (.bool (HT.lexLt ns ms))
    | _, _ => none
  | _, _ => none
def leD : D → D → Option D := cmpI fun i j => decide (i ≤ j)
def gtD : D → D → Option D := cmpI fun i j => decide (j < i)
def geD : D → D → Option D := cmpI fun i j => decide (j ≤ i)
def rLtD (K : PySem.W.Frag) : R2 := fun x y H Q => rI0 (fun i j => .bl (decide (i < j))) x y H Q ∨ rLtT K x y H Q
theorem or_lt (hu : X.A.units < cLine) : OpR X (compareOp .Lt) (rLtD X.K) := OpR.or op_lt (op_ltT hu)
theorem oi_lt : OpI X (rLtD X.K) ltD := by
  intro cs B H x y d e z f g Q rx ry hz k
  unfold ltD at hz
  split at hz
  · cases hz
    cases rx; cases ry
    exact .inl ⟨_, _, rfl, rfl, k _ (.bool _)⟩
  · split at hz
    · rename_i ns ms h1 h2
      cases hz
      obtain ⟨a, vs, rfl, hq, r1⟩ := (rx.seq).2 _ rfl
      obtain ⟨b, ws, rfl, hp, r2⟩ := (ry.seq).2 _ rfl
      rw [intsD_eq h1] at r1
      rw [intsD_eq h2] at r2
      rw [r1.ints] at hq
      rw [r2.ints] at hp
      exact .inr ⟨a, b, ns, ms, rfl, rfl, hq, hp, k _ (.bool _)⟩
    · cases hz
  · cases hz
/-- is, is not: None, True, False -/
def isN? : D → Bool
  | .none => true
  | _ => false
theorem isN_rep {K : PySem.W.Frag} {mg : Str → Option Value} {cs B : List Addr} {H : Hp} {v : V} {d : D} {f : List Addr} (r : Rep K mg cs B H v d f) : decide (v = .non) = isN? d := by
  cases r <;> first | rfl | exact decide_eq_false (fun z => nomatch z)
theorem RelV.bool_iff {x : V} {v : Value} (r : RelV x v) (b : Bool) : (v == Value.bool b) = decide (x = .bl b) := by
  cases x with
  | non => cases r; rfl
  | bl c =>
    cases r
    by_cases e : c = b
    · subst e; simp
    · have : (V.bl c = V.bl b) = False := by simp [e]
      rw [show decide (V.bl c = V.bl b) = false from by simp [e]]
      exact beq_eq_false_iff_ne.mpr (fun z => e (Value.bool.inj z))
  | int _ => obtain ⟨t, rfl⟩ := r; rfl
  | str _ => obtain ⟨t, rfl⟩ := r; rfl
  | byt _ => obtain ⟨t, rfl⟩ := r; rfl
  | flt _ => obtain ⟨t, rfl⟩ := r; rfl
  | ref _ => cases r; rfl
  | ty _ => cases r; rfl
def rIsB2 (n : Bool) : R2 := fun x y H Q => ∃ b, y = .bl b ∧ Q (.bl (n ^^ decide (x = .bl b))) H
theorem op_isB2 : OpR X (compareOp .Is) (rIsB2 false) := by
  intro pins s σ H x y v u Q I rx ry h
  obtain ⟨b, rfl, q⟩ := h
  cases ry
  have q' : EP X pins σ Q (.bool (v == .bool b)) s := ⟨.bl _, H, I, rfl, by rw [RelV.bool_iff rx]; simpa using q⟩
  cases x with
  | non => cases rx; exact wpAny_pure q'
  | bl c => cases rx; exact wpAny_pure q'
  | int _ => obtain ⟨t, rfl⟩ := rx; exact wpAny_pure q'
  | str _ => obtain ⟨t, rfl⟩ := rx; exact wpAny_pure q'
  | byt _ => obtain ⟨t, rfl⟩ := rx; exact wpAny_pure q'
  | flt _ => obtain ⟨t, rfl⟩ := rx; exact wpAny_pure q'
  | ref _ => cases rx; exact wpAny_pure q'
  | ty _ => cases rx; exact wpAny_pure q'
theorem op_isntB2 : OpR X (compareOp .IsNot) (rIsB2 true) := by
  intro pins s σ H x y v u Q I rx ry h
  obtain ⟨b, rfl, q⟩ := h
  cases ry
  have q' : EP X pins σ Q (.bool (!(v == .bool b))) s := ⟨.bl _, H, I, rfl, by rw [RelV.bool_iff rx]; simpa using q⟩
  cases x with
  | non => cases rx; exact wpAny_pure q'
  | bl c => cases rx; exact wpAny_pure q'
  | int _ => obtain ⟨t, rfl⟩ := rx; exact wpAny_pure q'
  | str _ => obtain ⟨t, rfl⟩ := rx; exact wpAny_pure q'
  | byt _ => obtain ⟨t, rfl⟩ := rx; exact wpAny_pure q'
  | flt _ => obtain ⟨t, rfl⟩ := rx; exact wpAny_pure q'
  | ref _ => cases rx; exact wpAny_pure q'
  | ty _ => cases rx; exact wpAny_pure q'
def isB? (b : Bool) : D → Bool
  | .bool a => decide (a = b)
  | _ => false
theorem isB_rep {K : PySem.W.Frag} {mg : Str → Option Value} {cs B : List Addr} {H : Hp} {v : V} {d : D} {f : List Addr} (r : Rep K mg cs B H v d f) (b : Bool) : decide (v = .bl b) = isB? b d := by
  cases r <;> first | exact decide_eq_false (fun z => nomatch z) | simp [isB?]
def isD : D → D → Option D
  | d, .none => some (.bool (isN? d))
  | d, .bool b => some (.bool (isB? b d))
  | _, _ => none
def isntD : D → D → Option D
  | d, .none => some (.bool (!isN? d))
  | d, .bool b => some (.bool (!isB? b d))
  | _, _ => none
def rIsD : R2 := fun x y H Q => (y = .non ∧ Q (.bl (decide (x = .non))) H) ∨ rIsB2 false x y H Q
def rIsntD : R2 := fun x y H Q => (y = .non ∧ Q (.bl (!decide (x = .non))) H) ∨ rIsB2 true x y H Q
theorem or_is : OpR X (compareOp .Is) rIsD := OpR.or op_isN op_isB2
theorem or_isnt : OpR X (compareOp .IsNot) rIsntD := OpR.or op_notN op_isntB2
theorem oi_is : OpI X rIsD isD := by
  intro cs B H x y d e z f g Q rx ry hz k
  unfold isD at hz
  split at hz
  · cases hz
    cases ry
    exact .inl ⟨rfl, k _ (by rw [isN_rep rx]; exact .bool _)⟩
  · cases hz
    cases ry
    exact .inr ⟨_, rfl, k _ (by rw [isB_rep rx]; simpa using Scal.bool _)⟩
  · cases hz
theorem oi_isnt : OpI X rIsntD isntD := by
  intro cs B H x y d e z f g Q rx ry hz k
  unfold isntD at hz
  split at hz
  · cases hz
    cases ry
    exact .inl ⟨rfl, k _ (by rw [isN_rep rx]; exact .bool _)⟩
  · cases hz
    cases ry
    exact .inr ⟨_, rfl, k _ (by rw [isB_rep rx]; simpa using Scal.bool _)⟩
  · cases hz
/-! ### in, not in -/
def rInT (K : PySem.W.Frag) (n : Bool) : R2 := fun x y H Q => ∃ d ds, Dp K H x d ∧ Dp K H y (.tuple ds) ∧ SeqAt.shaped d = true ∧ SeqAt.shaped (.tuple ds) = true ∧ Q (.bl (n ^^ ds.any fun z => PyData.eqv z d)) H
theorem op_inT (hu : X.A.units + 65 < cLine) : OpR X (compareOp .In) (rInT X.K false) := by
  intro pins s σ H x y v u Q I rx ry h
  obtain ⟨d, ds, hd, he, sd, se, q⟩ := h
  obtain ⟨as, r1⟩ := Dp.reads I d x v hd rx
  obtain ⟨bs, r2⟩ := Dp.reads I (.tuple ds) y u he ry
  exact SeqAt.in_tuple_reads r2 r1 (SeqAt.canLay_of_shaped se) (SeqAt.canLay_of_shaped sd) (PyProof.Rows.room_in_shaped sd hu) ⟨.bl _, H, I, rfl, by simpa using q⟩
theorem op_notInT (hu : X.A.units + 65 < cLine) : OpR X (compareOp .NotIn) (rInT X.K true) := by
  intro pins s σ H x y v u Q I rx ry h
  obtain ⟨d, ds, hd, he, sd, se, q⟩ := h
  obtain ⟨as, r1⟩ := Dp.reads I d x v hd rx
  obtain ⟨bs, r2⟩ := Dp.reads I (.tuple ds) y u he ry
  exact SeqAt.notIn_tuple_reads r2 r1 (SeqAt.canLay_of_shaped se) (SeqAt.canLay_of_shaped sd) (PyProof.Rows.room_in_shaped sd hu) ⟨.bl _, H, I, rfl, by simpa using q⟩
def rInD' (K : PySem.W.Frag) : R2 := fun x y H Q => rInD K x y H Q ∨ rInT K false x y H Q ∨ ∃ i j, x = .str i ∧ y = .str j ∧ Q (.bl (!(Builtin.Str.occurrences j i 0 j.length 1).isEmpty)) H
def rNinD' (K : PySem.W.Frag) : R2 := fun x y H Q => rNotInD K x y H Q ∨ rInT K true x y H Q
theorem or_in (hu : X.A.units + 65 < cLine) : OpR X (compareOp .In) (rInD' X.K) := OpR.or (op_inD hu) (OpR.or (op_inT hu) op_in_str)
theorem or_nin (hu : X.A.units + 65 < cLine) : OpR X (compareOp .NotIn) (rNinD' X.K) := OpR.or (op_notInD hu) (op_notInT hu)
def memD (d : D) (ds : List D) : Bool := ds.any fun z => PyData.eqv z.py d.py
def inD : D → D → Option D
  | d, .lst _ ds => if D.low 60 d && D.lows 60 ds then some (.bool (memD d ds)) else none
  | d, .frz ds => if D.low 60 d && D.lows 60 ds then some (.bool (memD d ds)) else none
  | d, .tup ds => if D.low 60 d && D.lows 60 ds then some (.bool (memD d ds)) else none
  | .str i, .str j => some (.bool (!(Builtin.Str.occurrences j i 0 j.length 1).isEmpty))
  | _, _ => none
def ninD : D → D → Option D
  | d, .lst _ ds => if D.low 60 d && D.lows 60 ds then some (.bool (!memD d ds)) else none
  | d, .frz ds => if D.low 60 d && D.lows 60 ds then some (.bool (!memD d ds)) else none
  | d, .tup ds => if D.low 60 d && D.lows 60 ds then some (.bool (!memD d ds)) else none
  | _, _ => none
theorem pys_any (d : D) (ds : List D) : (D.pys ds).any (fun z => PyData.eqv z d.py) = memD d ds := by
  unfold memD; rw [D.pys_map, List.any_map]; rfl
theorem oi_in : OpI X (rInD' X.K) inD := by
  intro cs B H x y d e z f g Q rx ry hz k
  unfold inD at hz
  split at hz
  · split at hz
    · rename_i h
      rw [Bool.and_eq_true] at h
      cases hz
      exact .inl ⟨_, _, rx.dp 60 h.1, ry.dp 61 (by exact h.2), D.shaped (by decide) h.1, D.shaped (d := .lst false _) (n := 61) (by decide) (by exact h.2), k _ (by rw [pys_any]; exact .bool _)⟩
    · cases hz
  · split at hz
    · rename_i h
      rw [Bool.and_eq_true] at h
      cases hz
      exact .inl ⟨_, _, rx.dp 60 h.1, ry.dp 61 (by exact h.2), D.shaped (by decide) h.1, D.shaped (d := .frz _) (n := 61) (by decide) (by exact h.2), k _ (by rw [pys_any]; exact .bool _)⟩
    · cases hz
  · split at hz
    · rename_i h
      rw [Bool.and_eq_true] at h
      cases hz
      exact .inr (.inl ⟨_, _, rx.dp 60 h.1, ry.dp 61 (by exact h.2), D.shaped (by decide) h.1, D.shaped (d := .tup _) (n := 61) (by decide) (by exact h.2), k _ (by rw [pys_any]; simpa using Scal.bool _)⟩)
    · cases hz
  · cases hz
    cases rx; cases ry
    exact .inr (.inr ⟨_, _, rfl, rfl, k _ (.bool _)⟩)
  · cases hz
theorem oi_nin : OpI X (rNinD' X.K) ninD := by
  intro cs B H x y d e z f g Q rx ry hz k
  unfold ninD at hz
  split at hz
  · split at hz
    · rename_i h
      rw [Bool.and_eq_true] at h
      cases hz
      exact .inl ⟨_, _, rx.dp 60 h.1, ry.dp 61 (by exact h.2), D.shaped (by decide) h.1, D.shaped (d := .lst false _) (n := 61) (by decide) (by exact h.2), k _ (by rw [pys_any]; exact .bool _)⟩
    · cases hz
  · split at hz
    · rename_i h
      rw [Bool.and_eq_true] at h
      cases hz
      exact .inl ⟨_, _, rx.dp 60 h.1, ry.dp 61 (by exact h.2), D.shaped (by decide) h.1, D.shaped (d := .frz _) (n := 61) (by decide) (by exact h.2), k _ (by rw [pys_any]; exact .bool _)⟩
    · cases hz
  · split at hz
    · rename_i h
      rw [Bool.and_eq_true] at h
      cases hz
      exact .inr ⟨_, _, rx.dp 60 h.1, ry.dp 61 (by exact h.2), D.shaped (by decide) h.1, D.shaped (d := .tup _) (n := 61) (by decide) (by exact h.2), k _ (by rw [pys_any]; simpa using Scal.bool _)⟩
    · cases hz
  · cases hz
/-! ### built-ins -/
theorem reps1 {K : PySem.W.Frag} {mg : Str → Option Value} {cs B : List Addr} {H : Hp} {vs : List V} {d : D} {f : List Addr} (r : Reps K mg cs B H vs [d] f) : ∃ v, vs = [v] ∧ Rep K mg cs B H v d f := by
  cases r with
  | cons r t => cases t; rw [List.append_nil]; exact ⟨_, rfl, r⟩
theorem reps2 {K : PySem.W.Frag} {mg : Str → Option Value} {cs B : List Addr} {H : Hp} {vs : List V} {d e : D} {f : List Addr} (r : Reps K mg cs B H vs [d, e] f) : ∃ v w f1 f2, vs = [v, w] ∧ f = f1 ++ f2 ∧ Rep K mg cs B H v d f1 ∧ Rep K mg cs B H w e f2 := by
  cases r with
  | cons r t =>
    obtain ⟨w, rfl, r2⟩ := reps1 t
    exact ⟨_, w, _, _, rfl, rfl, r, r2⟩
theorem repEs1 {K : PySem.W.Frag} {mg : Str → Option Value} {cs B : List Addr} {H : Hp} {vs : List V} {d : D} (r : RepEs K mg cs B H vs [d]) : ∃ v, vs = [v] ∧ RepE K mg cs B H v d := by
  cases r with
  | cons r t => cases t; exact ⟨_, rfl, r⟩
def lenD : List D → Option D
  | [.lst _ ds] => some (.int (ds.length : Int))
  | [.frz ds] => some (.int (ds.length : Int))
  | [.tup ds] => some (.int (ds.length : Int))
  | [.str x] => if x.length ≤ sizeLine then some (.int (x.length : Int)) else none
  | _ => none
theorem ci_len : ClI X (fun xs H Q => ∃ x n, xs = [x] ∧ LenV X.K x H n ∧ Q (.int n) H) lenD := by
  intro cs H xs ds z f Q r hz k
  unfold lenD at hz
  split at hz
  · cases hz
    obtain ⟨v, rfl, r1⟩ := reps1 r
    obtain ⟨a, ys, g, rfl, hq, rs, _⟩ := (r1.seq).1 _ _ rfl
    exact ⟨_, _, rfl, .inl ⟨_, hq, rs.length.symm⟩, k _ (.int _)⟩
  · cases hz
    obtain ⟨v, rfl, r1⟩ := reps1 r
    obtain ⟨a, ys, rfl, hq, rs, _⟩ := r1.frzL
    exact ⟨_, _, rfl, .inl ⟨_, hq, rs.length.symm⟩, k _ (.int _)⟩
  · cases hz
    obtain ⟨v, rfl, r1⟩ := reps1 r
    obtain ⟨a, ys, rfl, hq, rs⟩ := (r1.seq).2 _ rfl
    exact ⟨_, _, rfl, .inr ⟨_, hq, rs.length.symm⟩, k _ (.int _)⟩
  · split at hz
    · rename_i h
      cases hz
      obtain ⟨v, rfl, r1⟩ := reps1 r
      cases r1
      exact ⟨_, _, rfl, ⟨h, rfl⟩, k _ (.int _)⟩
    · cases hz
  · cases hz
end
end DL
namespace DL
open PySem L2
section
variable {X : Cx}
/-! ### numbers -/
def absD : List D → Option D
  | [.int i] => some (.int (if i < 0 then -i else i))
  | _ => none
theorem ci_abs : ClI X (fun xs H Q => ∃ i, xs = [.int i] ∧ Q (.int (if i < 0 then -i else i)) H) absD := by
  intro cs H xs ds z f Q r hz k
  unfold absD at hz
  split at hz
  · cases hz
    obtain ⟨v, rfl, r1⟩ := reps1 r
    cases r1
    exact ⟨_, rfl, k _ (.int _)⟩
  · cases hz
/-- the least, the greatest of a list; of two numbers -/
def leastI : List Int → Option Int
  | [] => none
  | n :: ns => some (ns.foldl (fun a b => if b < a then b else a) n)
def greatestI : List Int → Option Int
  | [] => none
  | n :: ns => some (ns.foldl (fun a b => if b > a then b else a) n)
theorem leastI_is : ∀ {ns : List Int} {m : Int}, leastI ns = some m → m ∈ ns ∧ ∀ y ∈ ns, m ≤ y
  | [], m, h => by cases h
  | n :: ns, m, h => by
    simp only [leastI, Option.some.injEq] at h
    subst h
    induction ns generalizing n with
    | nil => simp
    | cons k ns ih =>
      simp only [List.foldl_cons]
      obtain ⟨h1, h2⟩ := ih (if k < n then k else n)
      generalize List.foldl (fun a b => if b < a then b else a) (if k < n then k else n) ns = m at *
      refine ⟨?_, fun y hy => ?_⟩
      · simp only [List.mem_cons] at h1 ⊢
        rcases h1 with h1 | h1
        · split at h1
          · exact .inr (.inl h1)
          · exact .inl h1
        · exact .inr (.inr h1)
      · have h0 := h2 (if k < n then k else n) (by simp)
        rcases List.mem_cons.mp hy with rfl | hy
        · split at h0 <;> omega
        · rcases List.mem_cons.mp hy with rfl | hy
          · split at h0 <;> omega
          · exact h2 y (List.mem_cons_of_mem _ hy)
theorem greatestI_is : ∀ {ns : List Int} {m : Int}, greatestI ns = some m → m ∈ ns ∧ ∀ y ∈ ns, y ≤ m
  | [], m, h => by cases h
  | n :: ns, m, h => by
    simp only [greatestI, Option.some.injEq] at h
    subst h
    induction ns generalizing n with
    | nil => simp
    | cons k ns ih =>
      simp only [List.foldl_cons]
      obtain ⟨h1, h2⟩ := ih (if k > n then k else n)
      generalize List.foldl (fun a b => if b > a then b else a) (if k > n then k else n) ns = m at *
      refine ⟨?_, fun y hy => ?_⟩
      · simp only [List.mem_cons] at h1 ⊢
        rcases h1 with h1 | h1
        · split at h1
          · exact .inr (.inl h1)
          · exact .inl h1
        · exact .inr (.inr h1)
      · have h0 := h2 (if k > n then k else n) (by simp)
        rcases List.mem_cons.mp hy with rfl | hy
        · split at h0 <;> omega
        · rcases List.mem_cons.mp hy with rfl | hy
          · split at h0 <;> omega
          · exact h2 y (List.mem_cons_of_mem _ hy)
def seqOf : D → Option (List D)
  | .lst _ ds => some ds
  | .frz ds => some ds
  | _ => none
/-- a list of ints that is looked at -/
theorem Rep.intL {K : PySem.W.Frag} {mg : Str → Option Value} {cs B : List Addr} {H : Hp} {v : V} {d : D} {f : List Addr} (r : Rep K mg cs B H v d f) {ds : List D} {ns : List Int} (e : seqOf d = some ds) (hn : intsD ds = some ns) : ∃ a, v = .ref a ∧ SqL K H a (ns.map V.int) := by
  cases d with
  | lst o ds' =>
    cases e
    obtain ⟨a, ys, g, rfl, hq, rs, _⟩ := (r.seq).1 _ _ rfl
    rw [intsD_eq hn] at rs
    rw [rs.ints] at hq
    exact ⟨a, rfl, hq⟩
  | frz ds' =>
    cases e
    obtain ⟨a, ys, rfl, hq, rs, _⟩ := r.frzL
    rw [intsD_eq hn] at rs
    rw [rs.ints] at hq
    exact ⟨a, rfl, hq⟩
  | _ => cases e
def intsOf (d : D) : Option (List Int) := (seqOf d).bind intsD
theorem Rep.intsOf {K : PySem.W.Frag} {mg : Str → Option Value} {cs B : List Addr} {H : Hp} {v : V} {d : D} {f : List Addr} (r : Rep K mg cs B H v d f) {ns : List Int} (e : intsOf d = some ns) : ∃ a, v = .ref a ∧ SqL K H a (ns.map V.int) := by
  unfold DL.intsOf at e
  cases h : seqOf d with
  | none => rw [h] at e; cases e
  | some ds => rw [h] at e; exact r.intL h e
theorem RepE.intsOf {K : PySem.W.Frag} {mg : Str → Option Value} {cs B : List Addr} {H : Hp} {v : V} {d : D} (r : RepE K mg cs B H v d) {ns : List Int} (e : DL.intsOf d = some ns) : ∃ a, v = .ref a ∧ SqL K H a (ns.map V.int) := by
  cases r with
  | rep r => exact r.intsOf e
  | lst h rs =>
    have e2 : intsD _ = some ns := e
    rw [intsD_eq e2] at rs
    rw [rs.ints] at h
    exact ⟨_, rfl, .of h⟩
def sumD : List D → Option D
  | [d] => (intsOf d).map fun ns => .int ns.sum
  | _ => none
theorem ci_sum : ClI X (rSum X.K) sumD := by
  intro cs H xs ds z f Q r hz k
  unfold sumD at hz
  split at hz
  · rw [Option.map_eq_some_iff] at hz
    obtain ⟨ns, h1, rfl⟩ := hz
    obtain ⟨v, rfl, r1⟩ := reps1 r
    obtain ⟨a, rfl, hq⟩ := r1.intsOf h1
    exact ⟨a, ns, rfl, hq, k _ (.int _)⟩
  · cases hz
def minD : List D → Option D
  | [.int i, .int j] => some (.int (if j < i then j else i))
  | [d] => (intsOf d).bind fun ns => (leastI ns).map .int
  | _ => none
def maxD : List D → Option D
  | [.int i, .int j] => some (.int (if j > i then j else i))
  | [d] => (intsOf d).bind fun ns => (greatestI ns).map .int
  | _ => none
def rMinD (K : PySem.W.Frag) : List V → Hp → VK → Prop := fun xs H Q => (∃ i j, xs = [.int i, .int j] ∧ Q (.int (if j < i then j else i)) H) ∨ rMin K xs H Q
def rMaxD' (K : PySem.W.Frag) : List V → Hp → VK → Prop := fun xs H Q => (∃ i j, xs = [.int i, .int j] ∧ Q (.int (if j > i then j else i)) H) ∨ rMax K xs H Q
theorem cr_minA (hc : X.calm = true) : CallR X (.builtin "min") (rMinD X.K) := CallR.or (call_min2 hc) (cr_min hc)
theorem cr_maxA (hc : X.calm = true) : CallR X (.builtin "max") (rMaxD' X.K) := CallR.or (call_max2 hc) (cr_max hc)
theorem ci_min : ClI X (rMinD X.K) minD := by
  intro cs H xs ds z f Q r hz k
  unfold minD at hz
  split at hz
  · cases hz
    obtain ⟨v, w, f1, f2, rfl, rfl, r1, r2⟩ := reps2 r
    cases r1; cases r2
    exact .inl ⟨_, _, rfl, k _ (.int _)⟩
  · rw [Option.bind_eq_some_iff] at hz
    obtain ⟨ns, h1, h2⟩ := hz
    rw [Option.map_eq_some_iff] at h2
    obtain ⟨m, h2, rfl⟩ := h2
    obtain ⟨v, rfl, r1⟩ := reps1 r
    obtain ⟨a, rfl, hq⟩ := r1.intsOf h1
    have h3 := leastI_is h2
    refine .inr ⟨a, ns, rfl, hq, List.length_pos_of_mem h3.1, fun m' hm' hl => ?_⟩
    have : m' = m := by
      have := hl m h3.1; have := h3.2 m' hm'; omega
    subst this
    exact k _ (.int _)
  · cases hz
theorem ci_max : ClI X (rMaxD' X.K) maxD := by
  intro cs H xs ds z f Q r hz k
  unfold maxD at hz
  split at hz
  · cases hz
    obtain ⟨v, w, f1, f2, rfl, rfl, r1, r2⟩ := reps2 r
    cases r1; cases r2
    exact .inl ⟨_, _, rfl, k _ (.int _)⟩
  · rw [Option.bind_eq_some_iff] at hz
    obtain ⟨ns, h1, h2⟩ := hz
    rw [Option.map_eq_some_iff] at h2
    obtain ⟨m, h2, rfl⟩ := h2
    obtain ⟨v, rfl, r1⟩ := reps1 r
    obtain ⟨a, rfl, hq⟩ := r1.intsOf h1
    have h3 := greatestI_is h2
    refine .inr ⟨a, ns, rfl, hq, List.length_pos_of_mem h3.1, fun m' hm' hl => ?_⟩
    have : m' = m := by
      have := hl m h3.1; have := h3.2 m' hm'; omega
    subst this
    exact k _ (.int _)
  · cases hz
/-- int(), bool() -/
def intD : List D → Option D
  | [.int i] => some (.int i)
  | [.bool b] => some (.int (if b then 1 else 0))
  | _ => none
theorem ci_int : ClI X (fun xs H Q => (∃ i, xs = [.int i] ∧ Q (.int i) H) ∨ ∃ k, xs = [.bl k] ∧ Q (.int (if k then 1 else 0)) H) intD := by
  intro cs H xs ds z f Q r hz k
  unfold intD at hz
  split at hz
  · cases hz
    obtain ⟨v, rfl, r1⟩ := reps1 r
    cases r1
    exact .inl ⟨_, rfl, k _ (.int _)⟩
  · cases hz
    obtain ⟨v, rfl, r1⟩ := reps1 r
    cases r1
    exact .inr ⟨_, rfl, k _ (.int _)⟩
  · cases hz
def boolD : List D → Option D
  | [.int i] => some (.bool (i != 0))
  | [.bool b] => some (.bool b)
  | _ => none
theorem ci_bool : ClI X (fun xs H Q => (∃ i, xs = [.int i] ∧ Q (.bl (i != 0)) H) ∨ ∃ k, xs = [.bl k] ∧ Q (.bl k) H) boolD := by
  intro cs H xs ds z f Q r hz k
  unfold boolD at hz
  split at hz
  · cases hz
    obtain ⟨v, rfl, r1⟩ := reps1 r
    cases r1
    exact .inl ⟨_, rfl, k _ (.bool _)⟩
  · cases hz
    obtain ⟨v, rfl, r1⟩ := reps1 r
    cases r1
    exact .inr ⟨_, rfl, k _ (.bool _)⟩
  · cases hz
/-- any, all of a list of bools -/
def boolsD : List D → Option (List Bool)
  | [] => some []
  | .bool b :: r => (boolsD r).map (b :: ·)
  | _ => none
theorem boolsD_eq : ∀ {ds : List D} {ns : List Bool}, boolsD ds = some ns → ds = ns.map .bool
  | [], ns, h => by cases h; rfl
  | .bool i :: r, ns, h => by
    simp only [boolsD, Option.map_eq_some_iff] at h
    obtain ⟨l, h1, rfl⟩ := h
    rw [boolsD_eq h1]; rfl
  | .none :: _, _, h => by cases h
  | .int _ :: _, _, h => by cases h
  | .str _ :: _, _, h => by cases h
  | .lst _ _ :: _, _, h => by cases h
  | .frz _ :: _, _, h => by cases h
  | .tup _ :: _, _, h => by cases h
  | .dic _ _ :: _, _, h => by cases h
  | .cell _ :: _, _, h => by cases h
  | .exc _ _ :: _, _, h => by cases h
  | .fn _ :: _, _, h => by cases h
  | .ty _ :: _, _, h => by cases h
theorem boolsD_map (ns : List Bool) : boolsD (ns.map .bool) = some ns := by
  induction ns with
  | nil => rfl
  | cons n ns ih => simp [boolsD, ih]
theorem Reps.bools {K : PySem.W.Frag} {mg : Str → Option Value} {cs B : List Addr} {H : Hp} : ∀ {ns : List Bool} {vs : List V} {f : List Addr}, Reps K mg cs B H vs (ns.map .bool) f → vs = ns.map V.bl
  | [], _, _, h => by cases h; rfl
  | n :: ns, _, _, h => by
    rw [List.map_cons] at h
    cases h with
    | cons r t => cases r; rw [Reps.bools t]; rfl
def allD : List D → Option D
  | [.lst _ ds] => (boolsD ds).map fun bs => .bool (bs.all id)
  | _ => none
def anyD : List D → Option D
  | [.lst _ ds] => (boolsD ds).map fun bs => .bool (bs.any id)
  | _ => none
theorem ci_all : ClI X (rAll X.K) allD := by
  intro cs H xs ds z f Q r hz k
  unfold allD at hz
  split at hz
  · rw [Option.map_eq_some_iff] at hz
    obtain ⟨bs, h1, rfl⟩ := hz
    obtain ⟨v, rfl, r1⟩ := reps1 r
    obtain ⟨a, ys, g, rfl, hq, rs, _⟩ := (r1.seq).1 _ _ rfl
    rw [boolsD_eq h1] at rs
    rw [rs.bools] at hq
    exact ⟨a, bs, rfl, hq, k _ (.bool _)⟩
  · cases hz
theorem ci_any : ClI X (rAny X.K) anyD := by
  intro cs H xs ds z f Q r hz k
  unfold anyD at hz
  split at hz
  · rw [Option.map_eq_some_iff] at hz
    obtain ⟨bs, h1, rfl⟩ := hz
    obtain ⟨v, rfl, r1⟩ := reps1 r
    obtain ⟨a, ys, g, rfl, hq, rs, _⟩ := (r1.seq).1 _ _ rfl
    rw [boolsD_eq h1] at rs
    rw [rs.bools] at hq
    exact ⟨a, bs, rfl, hq, k _ (.bool _)⟩
  · cases hz
/-- list(), tuple() of a list or tuple -/
def listD : List D → Option D
  | [.lst _ ds] => some (.lst true ds)
  | [.frz ds] => some (.lst true ds)
  | [.tup ds] => some (.lst true ds)
  | _ => none
theorem cc_list : ClC X (fun xs H Q => ∃ p ys, xs = [.ref p] ∧ (SqL X.K H p ys ∨ SqT X.K H p ys) ∧ ∀ l, H l = none → Q (.ref l) (upd H l (.lst ys))) listD := by
  intro cs B H xs ds z Q r hz k
  unfold listD at hz
  split at hz
  · cases hz
    obtain ⟨v, rfl, r1⟩ := repEs1 r
    obtain ⟨a, ys, rfl, h, rs⟩ := r1.lstT
    exact ⟨a, ys, rfl, .inl (.of h), fun l hl => k _ _ (.lst hl rs)⟩
  · cases hz
    obtain ⟨v, rfl, r1⟩ := repEs1 r
    obtain ⟨a, ys, rfl, h, rs, _⟩ := (r1.un (by nofun)).frzL
    exact ⟨a, ys, rfl, .inl h, fun l hl => k _ _ (.lst hl rs)⟩
  · cases hz
    obtain ⟨v, rfl, r1⟩ := repEs1 r
    obtain ⟨a, ys, rfl, h, rs⟩ := ((r1.un (by nofun)).seq).2 _ rfl
    exact ⟨a, ys, rfl, .inr h, fun l hl => k _ _ (.lst hl rs)⟩
  · cases hz
def tupleD : List D → Option D
  | [.lst _ ds] => some (.tup ds)
  | [.frz ds] => some (.tup ds)
  | [.tup ds] => some (.tup ds)
  | _ => none
theorem cc_tuple : ClC X (fun xs H Q => ∃ p ys, xs = [.ref p] ∧ ((SqL X.K H p ys ∧ ∀ l, H l = none → Q (.ref l) (upd H l (.tup ys))) ∨ (SqT X.K H p ys ∧ Q (.ref p) H))) tupleD := by
  intro cs B H xs ds z Q r hz k
  unfold tupleD at hz
  split at hz
  · cases hz
    obtain ⟨v, rfl, r1⟩ := repEs1 r
    obtain ⟨a, ys, rfl, h, rs⟩ := r1.lstT
    exact ⟨a, ys, rfl, .inl ⟨.of h, fun l hl => k _ _ (.tup hl rs)⟩⟩
  · cases hz
    obtain ⟨v, rfl, r1⟩ := repEs1 r
    obtain ⟨a, ys, rfl, h, rs, _⟩ := (r1.un (by nofun)).frzL
    exact ⟨a, ys, rfl, .inl ⟨h, fun l hl => k _ _ (.tup hl rs)⟩⟩
  · cases hz
    obtain ⟨v, rfl, r1⟩ := repEs1 r
    obtain ⟨a, ys, rfl, h, rs⟩ := ((r1.un (by nofun)).seq).2 _ rfl
    exact ⟨a, ys, rfl, .inr ⟨h, k _ _ (.old (r1.un (by nofun)))⟩⟩
  · cases hz
/-- sorted(xs), ints -/
def sortI (ns : List Int) : List Int := ns.mergeSort (fun a b => decide (a ≤ b))
theorem sortI_of {ns ms : List Int} (p : ms.Perm ns) (h : ms.Pairwise (· ≤ ·)) : ms = sortI ns := by
  have h1 : (sortI ns).Pairwise (· ≤ ·) := by
    have := List.pairwise_mergeSort (le := fun a b : Int => decide (a ≤ b)) (fun a b c h1 h2 => by simp at *; omega) (fun a b => by simp; omega) ns
    exact this.imp (fun h => by simpa using h)
  exact List.Perm.eq_of_pairwise (fun a b _ _ h1 h2 => by omega) h h1 (p.trans (List.mergeSort_perm ns _).symm)
def sortedD : List D → Option D
  | [d] => (intsOf d).map fun ns => .lst true ((sortI ns).map .int)
  | _ => none
theorem Reps.of_ints {K : PySem.W.Frag} {mg : Str → Option Value} {cs B : List Addr} {H : Hp} : ∀ ns : List Int, Reps K mg cs B H (ns.map V.int) (ns.map .int) []
  | [] => .nil
  | n :: ns => .cons (f := []) (g := []) (.int n) (Reps.of_ints ns)
theorem cc_sorted : ClC X (rSortedI X.K) sortedD := by
  intro cs B H xs ds z Q r hz k
  unfold sortedD at hz
  split at hz
  · rw [Option.map_eq_some_iff] at hz
    obtain ⟨ns, h1, rfl⟩ := hz
    obtain ⟨v, rfl, r1⟩ := repEs1 r
    obtain ⟨a, rfl, hq⟩ := r1.intsOf h1
    refine ⟨a, ns, rfl, hq, fun ms p hp ho hn => ?_⟩
    rw [sortI_of hp ho]
    exact k _ _ (.lst hn (Reps.of_ints _))
  · cases hz
end
end DL
namespace DL
open PySem L2
section
variable {X : Cx}
/-! ### isinstance, built-in classes -/
def D.tyn : D → Option String
  | .none => some "NoneType"
  | .bool _ => some "bool"
  | .int _ => some "int"
  | .str _ => some "str"
  | .lst _ _ => some "list"
  | .frz _ => some "list"
  | .tup _ => some "tuple"
  | .dic _ _ => some "dict"
  | .cell _ => Option.none
  | .exc _ _ => Option.none
  | .fn _ => Option.none
  | .ty _ => Option.none
theorem Rep.tyx {K : PySem.W.Frag} {mg : Str → Option Value} {cs B : List Addr} {H : Hp} {v : V} {d : D} {f : List Addr} (r : Rep K mg cs B H v d f) {n : String} (e : d.tyn = some n) : TyX K H v (.type n) := by
  cases r with
  | none => cases e; exact .base .non
  | bool b => cases e; exact .base (.bl b)
  | int i => cases e; exact .base (.int i)
  | str x => cases e; exact .base (.str x)
  | frz h _ =>
    cases e
    rcases h with ⟨o, its, n, h1, h2, _⟩ | ⟨o, h⟩
    · exact .kList h1 h2
    · exact .base (.frz h)
  | lstS h _ _ => cases e; exact .base (.lst h)
  | lstO h _ => cases e; exact .base (.lst h)
  | tup h _ =>
    cases e
    rcases h with (h | ⟨o, h⟩) | ⟨o, its, n, h1, h2, _⟩
    · exact .base (.tup h)
    · exact .fTuple h
    · exact .kTuple h1 h2
  | dic h _ => cases e; exact .base (.dK h)
  | cell _ => cases e
  | exc _ _ _ _ => cases e
  | fn _ => cases e
  | ty _ => cases e
/-- is d of the class T, or of one of them -/
def isaB (d : D) (T : String) : Option Bool := d.tyn.bind fun n => kitB n T
def isaBs (d : D) : List D → Option Bool
  | [] => some false
  | .ty T :: r => match isaB d T, isaBs d r with
    | some true, some _ => some true
    | some false, o => o
    | _, _ => none
  | _ => none
def isaD : List D → Option D
  | [d, .ty T] => (isaB d T).map .bool
  | _ => none
theorem ci_isa : ClI X (rIsi X.K) isaD := by
  intro cs H xs ds z f Q r hz k
  unfold isaD at hz
  split at hz
  · rw [Option.map_eq_some_iff] at hz
    obtain ⟨b, h1, rfl⟩ := hz
    unfold isaB at h1
    rw [Option.bind_eq_some_iff] at h1
    obtain ⟨n, h1, h2⟩ := h1
    obtain ⟨v, w, f1, f2, rfl, rfl, r1, r2⟩ := reps2 r
    cases r2
    exact ⟨v, _, _, _, b, rfl, .ty _, r1.tyx h1, kit_ty h2, k _ (.bool _)⟩
  · cases hz
/-- isinstance(x, (T1, T2, ..)) -/
def rIsiS (K : PySem.W.Frag) : List V → Hp → VK → Prop := fun xs H Q => ∃ (x : V) (tp : Addr) (cs : List V) (t : Value) (us : List Value) (b : Bool), xs = [x, .ref tp] ∧ SqT K H tp cs ∧ Paired ClsV cs us ∧ TyX K H x t ∧ PySem.W.kitAny K t us = some b ∧ Q (.bl b) H
theorem cr_isaS : CallR X (.builtin "isinstance") (rIsiS X.K) := by
  intro pins s σ H xs us Q I r h
  obtain ⟨x, tp, cs, t, ws, b, rfl, hT, k, ty, e, q⟩ := h
  cases r with
  | cons r1 r2 => cases r2 with
    | cons r2 r3 =>
      cases r3
      cases r2
      obtain ⟨Pz, Z, p, hx⟩ := kit_of I r1 ty
      obtain ⟨its, rv, ⟨o, h1, h2, n, h3⟩, _⟩ := I.tuple hT
      have e3 := ClsV.all k rv
      subst e3
      obtain ⟨oc, od, dt, sl⟩ := o
      simp only at h2 h3
      subst h2 h3
      exact PySem.W.kia_tup Z I.kIn p h1 e hx fun tk => ⟨.bl b, H, I.tok tk, rfl, q⟩
def isaTD : List D → Option D
  | [d, .tup (T :: Ts)] => (isaBs d (T :: Ts)).map .bool
  | _ => none
theorem isaBs_any {K : PySem.W.Frag} {mg : Str → Option Value} {cs B : List Addr} {H : Hp} {d : D} {n : String} (hn : d.tyn = some n) : ∀ {Ts : List D} {vs : List V} {f : List Addr} {b : Bool}, Reps K mg cs B H vs Ts f → isaBs d Ts = some b → ∃ us, Paired ClsV vs us ∧ PySem.W.kitAny K (.type n) us = some b
  | [], _, _, b, r, e => by cases r; cases e; exact ⟨[], .nil, kitAny_nil⟩
  | .ty T :: Ts, _, _, b, r, e => by
    cases r with
    | cons r1 r2 =>
      cases r1
      simp only [isaBs] at e
      split at e
      · rename_i x h1 h2
        cases e
        unfold isaB at h1
        rw [hn] at h1
        obtain ⟨us, h3, h4⟩ := isaBs_any hn r2 h2
        exact ⟨_ :: us, .cons (.ty _) h3, kitAny_cons (kit_ty h1) (fun z => nomatch z) fun _ => rfl⟩
      · rename_i x h1
        unfold isaB at h1
        rw [hn] at h1
        obtain ⟨us, h3, h4⟩ := isaBs_any hn r2 e
        exact ⟨_ :: us, .cons (.ty _) h3, kitAny_cons (kit_ty h1) (fun _ => h4) fun z => nomatch z⟩
      · cases e
  | .none :: _, _, _, _, _, e => by cases e
  | .bool _ :: _, _, _, _, _, e => by cases e
  | .int _ :: _, _, _, _, _, e => by cases e
  | .str _ :: _, _, _, _, _, e => by cases e
  | .lst _ _ :: _, _, _, _, _, e => by cases e
  | .frz _ :: _, _, _, _, _, e => by cases e
  | .tup _ :: _, _, _, _, _, e => by cases e
  | .dic _ _ :: _, _, _, _, _, e => by cases e
  | .cell _ :: _, _, _, _, _, e => by cases e
  | .exc _ _ :: _, _, _, _, _, e => by cases e
  | .fn _ :: _, _, _, _, _, e => by cases e
theorem isaBs_tyn {d T : D} {Ts : List D} {b : Bool} (e : isaBs d (T :: Ts) = some b) : ∃ n, d.tyn = some n := by
  cases T with
  | ty T =>
    simp only [isaBs] at e
    cases h : d.tyn with
    | some n => exact ⟨n, rfl⟩
    | none => simp [isaB, h] at e
  | _ => cases e
theorem ci_isaT : ClI X (rIsiS X.K) isaTD := by
  intro cs H xs ds z f Q r hz k
  unfold isaTD at hz
  split at hz
  · rw [Option.map_eq_some_iff] at hz
    obtain ⟨b, h1, rfl⟩ := hz
    obtain ⟨v, w, f1, f2, rfl, rfl, r1, r2⟩ := reps2 r
    obtain ⟨a, ys, rfl, hq, rs⟩ := (r2.seq).2 _ rfl
    obtain ⟨n, hn⟩ := isaBs_tyn h1
    obtain ⟨us, h2, h3⟩ := isaBs_any hn rs h1
    exact ⟨v, a, ys, _, us, b, rfl, hq, h2, r1.tyx hn, h3, k _ (.bool _)⟩
  · cases hz
/-! ### slices -/
def opPart (i : It) (s : Sg) : Option Int := match i.at s.ρ with
  | some (.int k) => some k
  | _ => none
abbrev MO := M (Option Int)
def TO' (X : Cx) (W : WX) (m : MO) : TO := fun σ H Q => ∃ (Γ : Gm) (cs : List Addr) (s : Sg) (T : Tmp) (Fs Ft : List Addr), Γ.K = X.K ∧ Γ.mg = X.mg ∧ Good Γ cs H σ s.ρ s.μ T Fs Ft ∧
  After W Γ σ T (fun o s' => ∀ H' cs' Fs' Ft', Good Γ cs' H' σ s'.ρ s'.μ T Fs' Ft' → Q o H') (m s)
theorem PO.imp {X : Cx} {e : Option Expr} {t u : TO} (h : PO X e t) (k : ∀ σ H Q, u σ H Q → t σ H Q) : PO X e u := ⟨fun pins s σ H Q I q => h.run pins s σ H Q I (k σ H Q q)⟩
def o0 : MO := ret none
def o1 (m : M It) : MO := bnd m fun i s => match opPart i s with
  | some k => some (.ok (some k), s)
  | none => none
variable {W : WX}
theorem oN : PO X none (TO' X W o0) := PO.imp po_none fun σ H Q ⟨Γ, cs, s, T, Fs, Ft, hK, hM, g, a⟩ => a H cs Fs Ft g
theorem oS {e : Expr} {m : M It} (h : PE X e (TD X W m)) : PO X (some e) (TO' X W (o1 m)) :=
  PO.imp (po_some h) fun σ H Q ⟨Γ, cs, s, T, Fs, Ft, hK, hM, g, a⟩ => TD.go hK hM g (a.bnd.mono fun i s1 a1 v H1 cs1 Fs1 Ft1 g1 => by
    split at a1
    · rename_i k hk
      unfold opPart at hk
      split at hk
      · rename_i k' hk'
        cases hk
        obtain ⟨f, r⟩ := g1.look hk'
        obtain ⟨F2, g2⟩ := g1.pop
        cases r
        exact ⟨k, rfl, a1 H1 cs1 Fs1 F2 g2⟩
      · cases hk
    · exact a1.elim)
/-- the places lo .. hi -/
def cutD {α : Type} (xs : List α) (lo hi : Option Int) : List α := (xs.drop (HT.sIx xs.length 0 lo)).take (HT.sIx xs.length xs.length hi - HT.sIx xs.length 0 lo)
def sliceD (lo hi : Option Int) : D → Option D
  | .lst _ ds => some (.lst true (cutD ds lo hi))
  | .frz ds => some (.lst true (cutD ds lo hi))
  | .tup ds => some (.tup (cutD ds lo hi))
  | .str z => if z.length ≤ sizeLine then some (.str (cutS z lo hi)) else none
  | _ => none
def rSlD (K : PySem.W.Frag) : V → Option Int → Option Int → Hp → VK → Prop := fun x lo hi H Q => rSlL K x lo hi H Q ∨ rSlA K x lo hi H Q ∨ rSlS x lo hi H Q
theorem sr_all : SlR X (rSlD X.K) := SlR.or sl_list (SlR.or sl_tupA sl_str)
theorem Reps.sub {K : PySem.W.Frag} {mg : Str → Option Value} {cs B : List Addr} {H : Hp} {vs : List V} {ds : List D} (r : Reps K mg cs B H vs ds []) : (∀ n, Reps K mg cs B H (vs.drop n) (ds.drop n) []) ∧ ∀ n, Reps K mg cs B H (vs.take n) (ds.take n) [] := by
  induction vs generalizing ds with
  | nil => cases r; exact ⟨fun n => by simpa using Reps.nil, fun n => by simpa using Reps.nil⟩
  | cons v vs ih =>
    generalize hf : ([] : List Addr) = f at r
    cases r with
    | cons r1 r2 =>
      obtain ⟨e1, e2⟩ := List.append_eq_nil_iff.mp hf.symm
      subst e1 e2
      obtain ⟨h1, h2⟩ := ih r2
      refine ⟨fun n => ?_, fun n => ?_⟩
      · cases n with
        | zero => exact .cons (f := []) (g := []) r1 r2
        | succ n => simpa using h1 n
      · cases n with
        | zero => simpa using Reps.nil
        | succ n => simpa using Reps.cons (f := []) (g := []) r1 (h2 n)
theorem Reps.cut {K : PySem.W.Frag} {mg : Str → Option Value} {cs B : List Addr} {H : Hp} {vs : List V} {ds : List D} (r : Reps K mg cs B H vs ds []) (lo hi : Option Int) : Reps K mg cs B H (cutV vs lo hi) (cutD ds lo hi) [] := by
  unfold cutV cutD
  rw [r.length]
  exact ((r.sub.1 _).sub).2 _
theorem cutD_whole {α : Type} {xs : List α} {lo hi : Option Int} (h : HT.sIx xs.length 0 lo = 0 ∧ HT.sIx xs.length xs.length hi = xs.length) : cutD xs lo hi = xs := by
  unfold cutD; rw [h.1, h.2]; simp
theorem sl_go {cs B : List Addr} {H : Hp} {x : V} {d z : D} {lo hi : Option Int} {Q : VK} (r : RepE X.K X.mg cs B H x d) (hz : sliceD lo hi d = some z) (k : ∀ v H', Out X.K X.mg cs B H z v H' → Q v H') : rSlD X.K x lo hi H Q := by
  unfold sliceD at hz
  split at hz
  · cases hz
    obtain ⟨a, ys, rfl, h, rs⟩ := r.lstT
    exact .inl ⟨a, ys, rfl, .of h, fun p hp => k _ _ (.lst hp (rs.cut lo hi))⟩
  · cases hz
    obtain ⟨a, ys, rfl, h, rs, _⟩ := (r.un (by nofun)).frzL
    exact .inl ⟨a, ys, rfl, h, fun p hp => k _ _ (.lst hp (rs.cut lo hi))⟩
  · cases hz
    obtain ⟨a, ys, rfl, h, rs⟩ := ((r.un (by nofun)).seq).2 _ rfl
    refine .inr (.inl ⟨a, ys, rfl, h, fun hw => ?_, fun _ p hp => k _ _ (.tup hp (rs.cut lo hi))⟩)
    rw [rs.length] at hw
    rw [cutD_whole hw] at k
    exact k _ _ (.old (r.un (by nofun)))
  · split at hz
    · rename_i hl
      cases hz
      cases r.un (by nofun)
      exact .inr (.inr ⟨_, rfl, hl, k _ _ (.old (.str _))⟩)
    · cases hz
  · cases hz
def slM (m : M It) (lo hi : MO) : M It := bnd m fun i => bnd lo fun a => bnd hi fun b s =>
  match i.sate s with
  | some d => match sliceD a b d with
    | some z => some (.ok (.val z), s)
    | none => none
  | none => none
theorem dSl {e : Expr} {lo hi : Option Expr} {m : M It} {a b : MO} {pos p2 : Pos} (h : PE X e (TD X W m)) (hl : PO X lo (TO' X W a)) (hh : PO X hi (TO' X W b)) : PE X (.Subscript e (.Slice lo hi none p2) pos) (TD X W (slM m a b)) :=
  PE.imp (pe_slice sr_all h hl hh) fun σ H Q ⟨Γ, cs, s, T, Fs, Ft, hK, hM, g, a⟩ => TD.go hK hM g (a.bnd.mono fun i s1 a1 v H1 cs1 Fs1 Ft1 g1 =>
    ⟨Γ, cs1, s1, (v, i) :: T, Fs1, Ft1, hK, hM, g1, a1.bnd.push.mono fun lo s2 a2 H2 cs2 Fs2 Ft2 g2 => ⟨Γ, cs2, s2, (v, i) :: T, Fs2, Ft2, hK, hM, g2, a2.bnd.push.mono fun hi s3 a3 H3 cs3 Fs3 Ft3 g3 => by
      split at a3
      · rename_i d hd
        split at a3
        · rename_i z hz
          obtain ⟨F4, g4, r4, _⟩ := g3.sate hd
          rw [hK, hM] at r4
          refine sl_go r4 hz fun v' H' o => ?_
          rw [← hK, ← hM] at o
          obtain ⟨F5, g5⟩ := g4.out o
          exact a3 v' H' cs3 Fs3 F5 g5
        · exact a3.elim
      · exact a3.elim⟩⟩)
end
end DL
namespace DL
open PySem L2
section
variable {Γ : Gm} {cs : List Addr} {H : Hp} {σ : St} {ρ : Env} {μ : Cells} {T U : Tmp} {Fs Ft : List Addr}
/-! ### lists that change -/
theorem CellsOk.snoc {K : PySem.W.Frag} {mg : Str → Option Value} {cs B : List Addr} {as : List Addr} {a : Addr} {xs : List V} {ds : List D} (h : CellsOk K mg cs B H as μ) (e : H a = some (.lst xs)) (r : Reps K mg cs B H xs ds []) : CellsOk K mg cs B H (as ++ [a]) (μ ++ [ds]) := by
  induction h with
  | nil => exact .cons e r .nil
  | cons e' r' _ ih => exact .cons e' r' ih
/-- an owned list in hand becomes a cell -/
theorem Good.thaw {v : V} {ds : List D} (g : Good Γ cs H σ ρ μ ((v, .val (.lst true ds)) :: T) Fs Ft) : ∃ cs' Ft', Good Γ cs' H σ ρ (μ ++ [D.shares ds]) ((v, .val (.cell μ.length)) :: T) Fs Ft' := by
  have t := g.tm
  generalize hT : ((v, .val (.lst true ds)) :: T : Tmp) = T' at t
  cases t with
  | nil => cases hT
  | pk h t => cases hT
  | @val v1 d1 f1 T1 f' r t =>
    cases hT
    cases r with
    | @lstO p xs _ f0 hp rs =>
      have nd := g.nd
      simp only [List.count_append, List.count_cons] at nd
      have hlen := g.ce.len
      have hB : ∀ a ∈ Fs ++ f' ++ (cs ++ [p]) ++ Γ.G, a ∈ Fs ++ (p :: f0 ++ f') ++ cs ++ Γ.G := fun a h => by
        simp only [List.mem_append, List.mem_cons, List.not_mem_nil, or_false] at h ⊢
        rcases h with ((h | h) | h | h) | h <;> simp [h]
      have hB1 : ∀ a ∈ Fs ++ f' ++ (cs ++ [p]) ++ Γ.G, a ∈ Fs ++ (p :: f0 ++ f') ++ cs ++ Γ.G ∨ H a = none := fun a h => .inl (hB a h)
      have hc : ∀ (k : Nat) (a : Addr), cs[k]? = some a → (cs ++ [p])[k]? = some a := fun k a e => by
        rw [List.getElem?_append_left (List.getElem?_eq_some_iff.mp e).1]; exact e
      have nW : ∀ {l : List Addr}, ∀ a ∈ l, a ∉ ([] : List Addr) := fun _ _ h => nomatch h
      have s := Stp.refl H (Fs ++ (p :: f0 ++ f') ++ cs ++ Γ.G)
      have e1 : (cs ++ [p])[μ.length]? = some p := by
        rw [← hlen]; simp
      have rs' : Reps Γ.K Γ.mg (cs ++ [p]) (Fs ++ f' ++ (cs ++ [p]) ++ Γ.G) H xs (D.shares ds) [] := by
        have z : Reps Γ.K Γ.mg cs (Fs ++ f' ++ (cs ++ [p]) ++ Γ.G) H xs (D.shares ds) [] := rs.share hB fun a h hm => by
          have h1 := nd a
          have h2 := memc.mp h
          simp only [List.mem_append, memc] at hm
          by_cases e : p = a
          · subst e; simp only [beq_self_eq_true, if_true] at h1; omega
          · have e' : (p == a) = false := by simpa using e
            rcases hm with ((hm | hm) | hm | hm) | hm
            · omega
            · omega
            · omega
            · simp only [List.count_cons, e', List.count_nil] at hm; simp at hm
            · omega
        exact z.on (W := []) (Stp.refl H _) hc (fun _ h => .inl h) nW
      refine ⟨cs ++ [p], f', ⟨g.sl.on s hc hB1 nW, .val (f := []) (.cell e1) (t.on s hc hB1 nW), (g.ce.on s hc hB1 nW).snoc hp rs', fun a => ?_, g.kp, fun a h => ?_, fun k a e => hc k a (g.c1 k a e), fun a h => ?_, g.g0⟩⟩
      · have := nd a
        simp only [List.count_append, List.count_cons, List.count_nil]
        omega
      · refine g.fr a ?_
        exact h.imp_right fun h => by simp [h]
      · simp only [List.mem_append, List.mem_singleton] at h
        rcases h with h | h
        · exact g.c2 a h
        · subst h
          exact .inr (g.fr a (.inr (by simp)))
/-- an owned list in hand is written anew, out of what is in hand -/
theorem Good.rewr {T0 : Tmp} {p : Addr} {ds' : List D} {xs xs' : List V} {f f1 f2 f' : List Addr} (g : Good Γ cs H σ ρ μ T0 Fs Ft) (hF : ∀ a, (p :: f ++ f').count a ≤ Ft.count a) (hp : H p = some (.lst xs))
    (t : Temps Γ.K Γ.mg cs (Fs ++ Ft ++ cs ++ Γ.G) H σ T f') (r : Reps Γ.K Γ.mg cs (Fs ++ Ft ++ cs ++ Γ.G) H xs' ds' f1) (u : Temps Γ.K Γ.mg cs (Fs ++ Ft ++ cs ++ Γ.G) H σ U f2) (hc : ∀ a, f1.count a + f2.count a ≤ f.count a) :
    Good Γ cs (upd H p (.lst xs')) σ ρ μ ((.ref p, .val (.lst true ds')) :: (U ++ T)) Fs (p :: f1 ++ (f2 ++ f')) := by
  have nd := g.nd
  simp only [List.cons_append, List.count_append, List.count_cons] at hF
  have hFp := hF p
  simp only [beq_self_eq_true, if_true] at hFp
  have hpF : p ∈ Ft := memc.mpr (by omega)
  have s := Stp.write (o := .lst xs') hp (B := Fs ++ Ft ++ cs ++ Γ.G) (by simp [hpF])
  have hin : ∀ a, a ∈ f1 ∨ a ∈ f2 ∨ a ∈ f' → a ∈ Ft := fun a h => by
    have := hc a; have := hF a
    simp only [memc] at h ⊢
    omega
  have hB : ∀ a ∈ Fs ++ (p :: f1 ++ (f2 ++ f')) ++ cs ++ Γ.G, a ∈ Fs ++ Ft ++ cs ++ Γ.G ∨ H a = none := fun a h => .inl (by
    simp only [List.mem_append, List.mem_cons] at h ⊢
    rcases h with ((h | (h | h) | h | h) | h) | h
    · simp [h]
    · subst h; simp [hpF]
    · simp [hin a (.inl h)]
    · simp [hin a (.inr (.inl h))]
    · simp [hin a (.inr (.inr h))]
    · simp [h]
    · simp [h])
  have np : ∀ {l : List Addr}, l.count p = 0 → ∀ a ∈ l, a ∉ [p] := fun {l} hl a ha hm => by
    have : a = p := by simpa using hm
    subst this
    have := memc.mp ha
    omega
  have ndp := nd p
  have hcp := hc p
  have ht := (u.on s (fun _ _ e => e) hB (np (by omega))).app (t.on s (fun _ _ e => e) hB (np (by omega)))
  refine ⟨g.sl.on s (fun _ _ e => e) hB (np (by omega)), .val (.lstO upd_same (r.on s (fun _ _ e => e) hB (np (by omega)))) ht, g.ce.on s (fun _ _ e => e) hB (np (by omega)), fun a => ?_, fun a o e h1 h2 => ?_, fun a h => ?_, g.c1, g.c2, g.g0⟩
  · have := nd a; have := hc a; have := hF a
    simp only [List.cons_append, List.count_cons, List.count_append]
    omega
  · have hk := g.kp a o e h1 h2
    rw [upd_ne]
    · exact hk
    · rintro rfl
      rcases g.fr a (.inr hpF) with z | z
      · exact h1 z
      · rw [e] at z; cases z
  · refine g.fr a ?_
    simp only [List.mem_append, List.mem_cons, List.cons_append] at h ⊢
    rcases h with h | h | h | h | h
    · simp [h]
    · subst h; simp [hpF]
    · simp [hin a (.inl h)]
    · simp [hin a (.inr (.inl h))]
    · simp [hin a (.inr (.inr h))]
/-- the temps taken apart -/
theorem Good.ownT {v : V} {ds : List D} (g : Good Γ cs H σ ρ μ ((v, .val (.lst true ds)) :: T) Fs Ft) : ∃ p xs f f', v = .ref p ∧ Ft = p :: f ++ f' ∧ H p = some (.lst xs) ∧ Reps Γ.K Γ.mg cs (Fs ++ Ft ++ cs ++ Γ.G) H xs ds f ∧ Temps Γ.K Γ.mg cs (Fs ++ Ft ++ cs ++ Γ.G) H σ T f' := by
  have t := g.tm
  generalize hT : ((v, .val (.lst true ds)) :: T : Tmp) = T' at t
  cases t with
  | nil => cases hT
  | pk h t => cases hT
  | @val v1 d1 f1 T1 f' r t =>
    cases hT
    cases r with
    | @lstO p xs _ f0 hp rs => exact ⟨p, xs, f0, f', rfl, rfl, hp, rs, t⟩
/-- a value goes back to the slot that it came from -/
theorem Good.back {v : V} {d : D} {i : Nat} (g : Good Γ cs H σ (ρ.set i none) μ ((v, .val d) :: T) Fs Ft) (hi : i < ρ.length) (hv : σ[i]? = some (some v)) : ∃ Fs' Ft', Good Γ cs H σ (ρ.set i (some d)) μ T Fs' Ft' := by
  have t := g.tm
  generalize hT : ((v, .val d) :: T : Tmp) = T' at t
  cases t with
  | nil => cases hT
  | pk h t => cases hT
  | @val v1 d1 f1 T1 f' r t =>
    cases hT
    obtain ⟨F, sl, hc⟩ := g.sl.put (by rw [List.getElem?_set_self hi]) hv r
    rw [List.set_set] at sl
    have nd := g.nd
    simp only [List.count_append] at nd
    refine ⟨F, f', Good.mk0 sl t g.ce (fun a h => ?_) (fun a => ?_) g.kp (fun a h => ?_) g.c1 g.c2 g.g0⟩
    · have := hc a
      simp only [List.mem_append, memc] at h ⊢
      omega
    · have := hc a; have := nd a; omega
    · refine g.fr a ?_
      have := hc a
      simp only [List.mem_append, memc] at h ⊢
      omega
/-- a cell is written anew -/
theorem Good.cset {k : Nat} {a : Addr} {xs xs' : List V} {ds' : List D} (g : Good Γ cs H σ ρ μ T Fs Ft) (hk : cs[k]? = some a) (hx : H a = some (.lst xs)) (r : Reps Γ.K Γ.mg cs (Fs ++ Ft ++ cs ++ Γ.G) H xs' ds' []) : Good Γ cs (upd H a (.lst xs')) σ ρ (μ.set k ds') T Fs Ft := by
  have nd := g.nd
  have hm : a ∈ cs := List.mem_of_getElem? hk
  have hm' := memc.mp hm
  have s := Stp.write (o := .lst xs') hx (B := Fs ++ Ft ++ cs ++ Γ.G) (by simp [hm])
  have np : ∀ {l : List Addr}, l.count a = 0 → ∀ b ∈ l, b ∉ [a] := fun {l} hl b hb hn => by
    have : b = a := by simpa using hn
    subst this
    have := memc.mp hb
    omega
  have nda := nd a
  have hcn : cs.Nodup := List.nodup_iff_count.mpr fun b => by have := nd b; omega
  refine ⟨g.sl.on s (fun _ _ e => e) (fun _ h => .inl h) (np (by omega)), g.tm.on s (fun _ _ e => e) (fun _ h => .inl h) (np (by omega)), g.ce.set hk hcn s (r.on s (fun _ _ e => e) (fun _ h => .inl h) fun _ h => nomatch h), nd, fun b o e h1 h2 => ?_, g.fr, g.c1, g.c2, g.g0⟩
  have hk' := g.kp b o e h1 h2
  rw [upd_ne]
  · exact hk'
  · rintro rfl
    rcases g.c2 b hm with z | z | z
    · exact h2 z
    · exact h1 z
    · rw [e] at z; cases z
theorem Good.cellAt {v : V} {k : Nat} (g : Good Γ cs H σ ρ μ ((v, .val (.cell k)) :: T) Fs Ft) {ds : List D} (e : μ[k]? = some ds) : ∃ a xs, v = .ref a ∧ cs[k]? = some a ∧ H a = some (.lst xs) ∧ Reps Γ.K Γ.mg cs (Fs ++ Ft ++ cs ++ Γ.G) H xs ds [] := by
  obtain ⟨f, r⟩ := Good.look (it := .val (.cell k)) g rfl
  cases r with
  | cell hc =>
    obtain ⟨xs, hx, rs⟩ := g.cell hc e
    exact ⟨_, xs, rfl, hc, hx, rs⟩
end
section
variable {X : Cx} {W : WX}
/-- m's list as a cell from now on -/
def thawM (m : M It) : M It := bnd m fun it s =>
  match it with
  | .val (.lst true ds) => some (.ok (.val (.cell s.μ.length)), ⟨s.ρ, s.μ ++ [D.shares ds]⟩)
  | .val (.cell k) => some (.ok (.val (.cell k)), s)
  | _ => none
theorem dTh {e : Expr} {m : M It} (h : PE X e (TD X W m)) : PE X e (TD X W (thawM m)) :=
  PE.imp h fun σ H Q ⟨Γ, cs, s, T, Fs, Ft, hK, hM, g, a⟩ => TD.go hK hM g (a.bnd.mono fun it s1 a1 v H1 cs1 Fs1 Ft1 g1 => by
    split at a1
    · obtain ⟨cs2, F2, g2⟩ := g1.thaw
      exact a1 v H1 cs2 Fs1 F2 g2
    · exact a1 v H1 cs1 Fs1 Ft1 g1
    · exact a1.elim)
/-- m's value is shared from now on -/
def shrM (m : M It) : M It := bnd m fun it s =>
  match it with
  | .val d => some (.ok (.val d.share), s)
  | _ => none
theorem dSh {e : Expr} {m : M It} (h : PE X e (TD X W m)) : PE X e (TD X W (shrM m)) :=
  PE.imp h fun σ H Q ⟨Γ, cs, s, T, Fs, Ft, hK, hM, g, a⟩ => TD.go hK hM g (a.bnd.mono fun it s1 a1 v H1 cs1 Fs1 Ft1 g1 => by
    split at a1
    · obtain ⟨F2, g2⟩ := g1.shareTop
      exact a1 v H1 cs1 Fs1 F2 g2
    · exact a1.elim)
/-! ### methods of lists -/
/-- what a method does: to the list's items, with the arguments; the new items, the answer -/
abbrev LOp := List D → List D → Option (List D × D)
/-- on values: what is read of the heap before, what is written -/
structure LOk (X : Cx) (r : V → List V → Hp → VK → Prop) (o : LOp) : Prop where
  run : ∀ (cs B : List Addr) (H : Hp) (p : Addr) (xs ys : List V) (ds es ds' : List D) (z : D) (f g : List Addr) (Q : VK), H p = some (.lst xs) → Reps X.K X.mg cs B H xs ds f → Reps X.K X.mg cs B H ys es g → o ds es = some (ds', z) →
    (∀ xs' v f1 f2, Reps X.K X.mg cs B H xs' ds' f1 → Rep X.K X.mg cs B H v z f2 → (∀ a, f1.count a + f2.count a ≤ f.count a + g.count a) → Q v (upd H p (.lst xs'))) → r (.ref p) ys H Q
def isL (s : Sg) (k : Nat) : Bool :=
  match s.ρ[k]? with
  | some (some (.lst true _)) => true
  | some (some (.cell c)) => (s.μ[c]?).isSome
  | _ => false
def mtM (o : LOp) (k : Nat) (n : M (List It)) : M It := fun s0 => if isL s0 k then bnd n (fun l s =>
  match s.ρ[k]? with
    | some (some (.lst true ds)) => match vals? l with
      | some es => match o ds es with
        | some (ds', z) => some (.ok (.val z), ⟨s.ρ.set k (some (.lst true ds')), s.μ⟩)
        | none => none
      | none => none
    | some (some (.cell c)) => match s.μ[c]?, vals? l with
      | some ds, some es => match o ds (D.shares es) with
        | some (ds', z) => some (.ok (.val z), ⟨s.ρ, s.μ.set c ds'⟩)
        | none => none
      | _, _ => none
    | _ => none) s0 else none
theorem Temps.ofVals {K : PySem.W.Frag} {mg : Str → Option Value} {cs B : List Addr} {H : Hp} {σ : St} {v : V} {d : D} {f : List Addr} (r : Rep K mg cs B H v d f) : Temps K mg cs B H σ [(v, .val d)] f := by
  have := Temps.val (σ := σ) r .nil
  simpa using this
theorem nil_of_count {l : List Addr} (h : ∀ a, l.count a = 0) : l = [] := by
  cases l with
  | nil => rfl
  | cons a l => have := h a; simp at this
theorem mt_go {r : V → List V → Hp → VK → Prop} {o : LOp} (ok : LOk X r o) {k : Nat} {n : M (List It)} {σ : St} {H : Hp} {Q : VK} (h : TD X W (mtM o k n) σ H Q) : tBM X.K "list" r (tVar k) (TAs X W n) σ H Q := by
  obtain ⟨Γ, cs, s, T, Fs, Ft, hK, hM, g, a⟩ := h
  unfold mtM at a
  split at a
  · rename_i hi
    -- the receiver
    have hv : ∃ v, σ[k]? = some (some v) ∧ tyV X.K "list" v H := by
      unfold isL at hi
      split at hi
      · rename_i ds e
        obtain ⟨v, f, _, h1, r1, _⟩ := g.sl.out e
        obtain ⟨ad, xs, gg, rfl, hq, _⟩ := (r1.seq).1 true ds rfl
        exact ⟨_, h1, .inl ⟨rfl, xs, by rw [← hK]; exact hq⟩⟩
      · rename_i c e
        obtain ⟨v, f, _, h1, r1, _⟩ := g.sl.out e
        cases r1 with
        | cell hc =>
          obtain ⟨ds, hd⟩ := Option.isSome_iff_exists.mp hi
          obtain ⟨xs, hx, _⟩ := g.cell hc hd
          exact ⟨_, h1, .inl ⟨rfl, xs, .of hx⟩⟩
      · cases hi
    obtain ⟨v, h1, h2⟩ := hv
    refine ⟨v, h1, h2, TAs.go hK hM g (a.bnd.mono fun l s2 a2 vs H2 cs2 Fs2 Ft2 hl g2 => ?_)⟩
    split at a2
    · rename_i ds e
      split at a2
      · rename_i es ev
        split at a2
        · rename_i ds' z ho
          have e' := vals_eq ev
          subst e'
          have hl' : vs.length = es.length := by simpa using hl
          obtain ⟨v', F3, F4, h3, g3⟩ := g2.getMv e
          rw [h1] at h3; cases h3
          obtain ⟨p, xs, f, f', rfl, rfl, hp, rs, t⟩ := g3.ownT
          obtain ⟨f2, f3, rfl, r2, t2⟩ := Temps.to_reps hl' t
          rw [hK, hM] at rs r2
          refine ok.run cs2 _ H2 p xs vs ds es ds' z f f2 Q hp rs r2 ho fun xs' y f4 f5 r4 r5 hc => ?_
          rw [← hK, ← hM] at r4 r5
          have g4 := g3.rewr (p := p) (f := f ++ f2) (f' := f3) (fun b => by simp only [List.cons_append, List.count_cons, List.count_append]; omega) hp t2 r4 (Temps.ofVals r5) (fun b => by have := hc b; simp only [List.count_append]; omega)
          obtain ⟨F5, F6, g5⟩ := g4.back (List.getElem?_eq_some_iff.mp e).1 h1
          exact a2 y _ cs2 F5 F6 g5
        · exact a2.elim
      · exact a2.elim
    · rename_i c e
      split at a2
      · rename_i ds es hd ev
        split at a2
        · rename_i ds' z ho
          have e' := vals_eq ev
          subst e'
          have hl' : vs.length = es.length := by simpa using hl
          obtain ⟨F3, g3⟩ := Good.shareTops hl' g2
          obtain ⟨f, f', rfl, r2, t⟩ := Temps.to_reps (ds := D.shares es) (by rw [hl', D.shares_map]; simp) g3.tm
          have ef := r2.free (D.frees_shares es)
          subst ef
          have g4 := g3.pops (f := []) rfl t
          obtain ⟨v', f4, _, h4, r4, _⟩ := g4.sl.out e
          rw [h1] at h4; cases h4
          cases r4 with
          | @cell ad _ hc =>
            obtain ⟨xs, hx, rs⟩ := g4.cell hc hd
            have rs' := rs
            rw [hK, hM] at rs'
            simp only [List.nil_append] at r2
            have r2' := r2
            rw [hK, hM] at r2'
            refine ok.run cs2 _ H2 _ xs vs ds (D.shares es) ds' z [] [] Q hx rs' r2' ho fun xs' y f5 f6 r5 r6 hcn => ?_
            have e5 : f5 = [] := nil_of_count fun b => by have := hcn b; simp at this; omega
            have e6 : f6 = [] := nil_of_count fun b => by have := hcn b; simp at this; omega
            subst e5 e6
            rw [← hK, ← hM] at r5 r6
            have g5 := (g4.push0 r6).cset hc hx r5
            exact a2 y _ cs2 Fs2 _ g5
        · exact a2.elim
      · exact a2.elim
    · exact a2.elim
  · exact a.elim
/-- append, pop -/
def appO : LOp := fun ds es => match es with
  | [e] => if ds.length < sizeLine then some (ds ++ [e], .none) else none
  | _ => none
theorem lo_app : LOk X rAppend appO := ⟨fun cs B H p xs ys ds es ds' z f g Q hp rs re ho k => by
  unfold appO at ho
  split at ho
  · split at ho
    · rename_i hl
      cases ho
      obtain ⟨y, rfl, r1⟩ := reps1 re
      refine ⟨p, xs, y, rfl, rfl, hp, by rw [rs.length]; exact hl, k _ _ (f ++ g) [] (rs.append (.one r1)) .none fun a => by simp only [List.count_append, List.count_nil]; omega⟩
    · cases ho
  · cases ho⟩
theorem Reps.pick {K : PySem.W.Frag} {mg : Str → Option Value} {cs B : List Addr} {H : Hp} {xs : List V} : ∀ {ds : List D} {f : List Addr}, Reps K mg cs B H xs ds f → ∀ {j : Nat} {d : D}, ds[j]? = some d →
    ∃ v f1 f2, xs[j]? = some v ∧ Rep K mg cs B H v d f2 ∧ Reps K mg cs B H (xs.eraseIdx j) (ds.eraseIdx j) f1 ∧ ∀ a, f1.count a + f2.count a ≤ f.count a := by
  induction xs with
  | nil => intro ds f h j d e; cases h; simp at e
  | cons x xs ih =>
    intro ds f h j d e
    cases h with
    | cons r t =>
      cases j with
      | zero =>
        simp at e; subst e
        exact ⟨x, _, _, by simp, r, by simpa using t, fun a => by simp only [List.count_append]; omega⟩
      | succ j =>
        obtain ⟨v, f1, f2, h1, h2, h3, h4⟩ := ih t (j := j) (by simpa using e)
        refine ⟨v, _, f2, by simpa using h1, h2, by simpa using Reps.cons r h3, fun a => ?_⟩
        have := h4 a
        simp only [List.count_append]; omega
def popO : LOp := fun ds es => match es with
  | [] => (ds[ds.length - 1]?).map fun d => (ds.dropLast, d)
  | _ => none
theorem lo_pop : LOk X rPop popO := ⟨fun cs B H p xs ys ds es ds' z f g Q hp rs re ho k => by
  unfold popO at ho
  split at ho
  · rw [Option.map_eq_some_iff] at ho
    obtain ⟨d, hd, e⟩ := ho
    cases e
    cases re
    obtain ⟨v, f1, f2, h1, h2, h3, h4⟩ := rs.pick hd
    have e1 : xs.eraseIdx (ds.length - 1) = xs.dropLast := by rw [← rs.length, List.eraseIdx_length_sub_one]
    have e2 : ds.eraseIdx (ds.length - 1) = ds.dropLast := List.eraseIdx_length_sub_one
    rw [e1, e2] at h3
    exact ⟨p, xs, v, rfl, rfl, hp, by rw [rs.length]; exact h1, k _ _ f1 f2 h3 h2 fun a => by have := h4 a; simp only [List.count_nil]; omega⟩
  · cases ho⟩
def popAtO : LOp := fun ds es => match es with
  | [.int i] => if -(2 ^ 63) ≤ i ∧ i < 2 ^ 63 then
      match ixN ds.length i with
      | some j => (ds[j]?).map fun d => (ds.eraseIdx j, d)
      | none => none
    else none
  | _ => none
theorem lo_popAt : LOk X rPopAt popAtO := ⟨fun cs B H p xs ys ds es ds' z f g Q hp rs re ho k => by
  unfold popAtO at ho
  split at ho
  · split at ho
    · rename_i hb
      split at ho
      · rename_i j hj
        rw [Option.map_eq_some_iff] at ho
        obtain ⟨d, hd, e⟩ := ho
        cases e
        obtain ⟨y, rfl, r1⟩ := reps1 re
        cases r1
        obtain ⟨v, f1, f2, h1, h2, h3, h4⟩ := rs.pick hd
        exact ⟨p, xs, _, j, v, rfl, rfl, hp, hb.1, hb.2, by rw [rs.length]; exact (ixN_seq hj).1, h1, k _ _ f1 f2 h3 h2 fun a => by have := h4 a; simp only [List.count_nil]; omega⟩
      · cases ho
    · cases ho
  · cases ho⟩
section
variable {o e : Expr} {es : List Expr} {name : Str} {apos cpos : Pos} {id : String} {k : Nat} {n : M (List It)} {r : V → List V → Hp → VK → Prop} {op : LOp}
theorem dMt (slot : Slot "list" name id) (hty : typeOf (.builtin id) = pure (.type "method_descriptor")) (hm : MtR X id r) (ok : LOk X r op) (ho : PE X o (tVar k)) (ha : PA X (e :: es) (TAs X W n))
    (hbase : attributeBase o name X.env (eval o X.env) = eval o X.env := by rfl)
    (hfew : ((backTo cpos (starEach (e :: es) X.env)).all (fun x => !x.1) && (backToKw cpos (keywordEach [] X.env)).all (fun x => x.1.isSome)
      && decide ((e :: es).length + ([] : List Keyword).length + (if ([] : List Keyword).isEmpty then 0 else 1) < 30)) = true := by rfl)
    (hline : (apos.endLine == cpos.line) = true := by rfl) (hs : starEach (e :: es) X.env = (false, eval e X.env) :: starEach es X.env := by rfl) (hplain : (backTo cpos (starEach es X.env)).any (·.1) = false := by rfl) :
    PE X (.Call (.Attribute o name apos) (e :: es) [] cpos) (TD X W (mtM op k n)) :=
  PE.imp (pe_bm PySem.F.plainAttrs_list slot hty hm ho ha hbase hfew hline hs hplain) fun σ H Q q => mt_go ok q
theorem dMt0 (slot : Slot "list" name id) (hty : typeOf (.builtin id) = pure (.type "method_descriptor")) (hm : MtR X id r) (ok : LOk X r op) (ho : PE X o (tVar k))
    (hbase : attributeBase o name X.env (eval o X.env) = eval o X.env := by rfl) (hline : (apos.endLine == cpos.line) = true := by rfl) : PE X (.Call (.Attribute o name apos) [] [] cpos) (TD X W (mtM op k args0)) :=
  PE.imp (pe_bm0 PySem.F.plainAttrs_list slot hty hm ho hbase hline) fun σ H Q q => by
    obtain ⟨v, h1, h2, Γ, cs, s, T, Fs, Ft, hK, hM, g, a⟩ := mt_go ok q
    exact ⟨v, h1, h2, a [] H cs Fs Ft rfl g⟩
end
end
end DL
namespace DL
open PySem L2
/-! ### repr -/
mutual
/-- what repr may be asked of -/
def D.shw : D → Bool
  | .none => true
  | .bool _ => true
  | .int i => decide (i.natAbs.log2 < 1920)
  | .str _ => true
  | .lst _ xs => D.shws xs
  | .frz xs => D.shws xs
  | .tup xs => D.shws xs
  | .dic ks _ => ks.isEmpty
  | _ => false
def D.shws : List D → Bool
  | [] => true
  | d :: ds => d.shw && D.shws ds
end
section
variable {X : Cx} {pins : List (Addr × Obj)} {σ : St} {H : Hp} {s : Shared} {mg : Str → Option Value} {cs B : List Addr}
theorem rkL (I : Inv X pins σ H s) {a : Addr} {xs : List V} {ds : List D} (hq : SqL X.K H a xs) (hz : (PyData.shown (.list (D.pys ds))).length ≤ sizeLine)
    (k : ∀ {us : List Value}, Vals xs us → (∀ t ∈ PyData.shownAll (D.pys ds), t.length ≤ sizeLine) →
    ∃ bs as, ReadsAll s.heap us (D.pys ds) as ∧ ReadAtMost s.heap (PyData.depthAll (D.pys ds)) bs ∧ ReprAllK X.prog X.w bs s.heap (PyData.depthAll (D.pys ds)) us (PyData.shownAll (D.pys ds))) :
    ∃ bs as, Reads s.heap (.ref a) (.list (D.pys ds)) as ∧ ReadAtMost s.heap (PyData.depth (.list (D.pys ds))) bs ∧ ReprK X.prog X.w bs s.heap (PyData.depth (.list (D.pys ds))) (.ref a) (PyData.shown (.list (D.pys ds))) := by
  have hz' : (listText (PyData.shownAll (D.pys ds))).length ≤ sizeLine := by simpa only [PyData.shown] using hz
  obtain ⟨its, rv, ⟨o, n, ho, hc, _, hd⟩, _⟩ := I.list hq
  obtain ⟨bs, as, h1, h2, h3⟩ := k rv fun t ht => Nat.le_trans (listText_mem_le ht) hz'
  have r : Reads s.heap (.ref a) (.list (D.pys ds)) (a :: as) := .list ho hc hd (by simpa using h1)
  have hna := not_mem_of_deeper r (by simp only [PyData.depth]; omega) h2
  refine ⟨_, _, r, ReadAtMost.cons r (by simp only [PyData.depth]; omega) h2, ?_⟩
  simp only [PyData.depth, PyData.shown]
  cases its with
  | nil =>
    have e : PyData.shownAll (D.pys ds) = [] := by generalize PyData.shownAll (D.pys ds) = z at h3; cases h3; rfl
    rw [e, listText_nil]
    exact ReprK.listEmpty ho hc hd
  | cons y l => exact ReprK.list ho hc hd hna (by simpa using h3.length_eq) fun i z ez => h3.item i z (by simpa using ez)
theorem dic_at (I : Inv X pins σ H s) {a : Addr} (e : H a = some (.dK [])) : ∃ o n, s.heap.get? a = some o ∧ o.cls = .type "dict" ∧ o.data = .dict #[] n ∧ (a == sysModules) = false := by
  obtain ⟨_, hsm, vs, kv, o, es, ep, h1, h2, h3, _, h5, _⟩ := dk_of I.hok e
  cases kv
  have e0 : es.toList = [] := by
    cases h : es.toList with
    | nil => rfl
    | cons x l => rw [h] at h5; cases h5
  have e1 : es = #[] := by
    apply Array.toList_inj.mp
    simpa using e0
  subst e1
  exact ⟨o, ep, h1, h2.1, h3, hsm⟩
mutual
theorem rk (I : Inv X pins σ H s) : ∀ {v : V} {d : D} {f : List Addr} {u : Value}, Rep X.K mg cs B H v d f → RelV v u → d.shw = true → d.py.shown.length ≤ sizeLine →
    ∃ bs as, Reads s.heap u d.py as ∧ ReadAtMost s.heap d.py.depth bs ∧ ReprK X.prog X.w bs s.heap d.py.depth u d.py.shown
  | _, _, _, _, .none, r, _, _ => by
    cases r
    exact ⟨[], _, .none, (fun _ h => nomatch h), by simp only [D.py, PyData.shown]; exact .of_is ReprIs.none _ _ _⟩
  | _, _, _, _, .bool b, r, _, _ => by
    cases r
    exact ⟨[], _, .bool b, (fun _ h => nomatch h), by simp only [D.py, PyData.shown]; exact .of_is (ReprIs.bool b) _ _ _⟩
  | _, _, _, _, .int i, r, h, _ => by
    obtain ⟨t, rfl⟩ := r
    exact ⟨[], _, .int i t, (fun _ h => nomatch h), by simp only [D.py, PyData.shown]; exact .of_is (ReprIs.int t (by simpa [D.shw] using h)) _ _ _⟩
  | _, _, _, _, .str x, r, _, hz => by
    obtain ⟨t, rfl⟩ := r
    exact ⟨[], _, .str x t, (fun _ h => nomatch h), by simp only [D.py, PyData.shown]; exact .of_is (ReprIs.str x t (by simpa only [D.py, PyData.shown] using hz)) _ _ _⟩
  | _, _, _, _, .frz h q, r, hs, hz => by
    cases r
    simp only [D.py] at hz ⊢
    exact rkL I (h.elim .inr fun ⟨o, z⟩ => .inl (.inr ⟨o, z⟩)) hz fun rv ht => rks I q rv (by simpa [D.shw] using hs) ht
  | _, _, _, _, .lstS h _ q, r, hs, hz => by
    cases r
    simp only [D.py] at hz ⊢
    exact rkL I (.of h) hz fun rv ht => rks I q rv (by simpa [D.shw] using hs) ht
  | _, _, _, _, .lstO h q, r, hs, hz => by
    cases r
    simp only [D.py] at hz ⊢
    exact rkL I (.of h) hz fun rv ht => rks I q rv (by simpa [D.shw] using hs) ht
  | _, _, _, _, .tup (a := a) (ds := ds) h q, r, hs, hz => by
    cases r
    simp only [D.py] at hz ⊢
    have hz' : (tupleText (PyData.shownAll (D.pys ds))).length ≤ sizeLine := by simpa only [PyData.shown] using hz
    obtain ⟨its, rv, ⟨o, ho, hc, n, hd⟩, _⟩ := I.tuple h
    obtain ⟨bs, as, h1, h2, h3⟩ := rks I q rv (by simpa [D.shw] using hs) fun t ht => Nat.le_trans (tupleText_mem_le ht) hz'
    have r : Reads s.heap (.ref a) (.tuple (D.pys ds)) as := .tuple ho hc hd (by simpa using h1)
    refine ⟨_, _, r, ReadAtMost.cons r (by simp only [PyData.depth]; omega) h2, ?_⟩
    simp only [PyData.depth, PyData.shown]
    exact ReprK.tuple ho hc hd (not_mem_of_deeper r (by simp only [PyData.depth]; omega) h2) (by simpa using h3)
  | _, _, _, _, .dic (a := a) (kvs := kvs) h _, r, hs, hz => by
    cases r
    simp only [D.py] at hz ⊢
    have e0 : kvs = [] := by simpa [D.shw] using hs
    subst e0
    obtain ⟨o, n, h1, h2, h3, h4⟩ := dic_at I h
    have r : Reads s.heap (.ref a) (.dict []) ([a] ++ [] ++ []) := .dict (kvs := []) h1 h2 h3 .nil .nil
    refine ⟨_, _, r, ReadAtMost.cons (n := 0) (bs := []) r (Nat.zero_le _) (fun _ h => nomatch h), ?_⟩
    simp only [PyData.depth, PyData.shown, PyData.shownKv, PyData.depthKv]
    exact ReprK.dict h1 h2 h3 h4 (List.not_mem_nil) .nil
  | _, _, _, _, .cell _, _, hs, _ => by simp [D.shw] at hs
  | _, _, _, _, .exc _ _ _ _, _, hs, _ => by simp [D.shw] at hs
  | _, _, _, _, .fn _, _, hs, _ => by simp [D.shw] at hs
  | _, _, _, _, .ty _, _, hs, _ => by simp [D.shw] at hs
theorem rks (I : Inv X pins σ H s) : ∀ {vs : List V} {ds : List D} {f : List Addr} {us : List Value}, Reps X.K mg cs B H vs ds f → Vals vs us → D.shws ds = true → (∀ t ∈ PyData.shownAll (D.pys ds), t.length ≤ sizeLine) →
    ∃ bs as, ReadsAll s.heap us (D.pys ds) as ∧ ReadAtMost s.heap (PyData.depthAll (D.pys ds)) bs ∧ ReprAllK X.prog X.w bs s.heap (PyData.depthAll (D.pys ds)) us (PyData.shownAll (D.pys ds))
  | _, _, _, _, .nil, r, _, _ => by cases r; exact ⟨[], [], .nil, (fun _ h => nomatch h), by simp only [D.pys, PyData.shownAll]; exact .nil⟩
  | _, _, _, _, .cons (d := d) (ds := ds) p q, r, hs, hz => by
    cases r with
    | cons r1 r2 =>
      simp only [D.shws, Bool.and_eq_true] at hs
      simp only [D.pys, PyData.shownAll] at hz
      obtain ⟨b1, a1, x1, x2, x3⟩ := rk I p r1 hs.1 (hz _ (by simp))
      obtain ⟨b2, a2, y1, y2, y3⟩ := rks I q r2 hs.2 fun t ht => hz t (by simp [ht])
      refine ⟨b1 ++ b2, _, .cons x1 y1, ?_, ?_⟩
      · simp only [D.pys, PyData.depthAll]
        exact (x2.mono (Nat.le_max_left _ _)).append (y2.mono (Nat.le_max_right _ _))
      · simp only [D.pys, PyData.depthAll, PyData.shownAll]
        exact .cons ((x3.more fun b hb => List.mem_append_left _ hb).level_le (Nat.le_max_left _ _)) (y3.more_le (fun b hb => List.mem_append_right _ hb) (Nat.le_max_right _ _))
end
def rReprD (X : Cx) : List V → Hp → VK → Prop := fun xs H Q => ∃ (mg : Str → Option Value) (cs B : List Addr) (v : V) (d : D) (f : List Addr), xs = [v] ∧ Rep X.K mg cs B H v d f ∧ d.shw = true ∧ d.py.shown.length ≤ sizeLine ∧ d.py.depth ≤ 60 ∧ Q (.str d.py.shown) H
theorem cr_repr (hg : X.A.guards = some []) (hu : X.A.units + 70 < cLine) : CallR X (.builtin "repr") (rReprD X) := by
  intro pins s σ H xs us Q I r h
  obtain ⟨mg, cs, B, v, d, f, rfl, rp, hs, hz, hdp, q⟩ := h
  obtain ⟨u, rfl, ru⟩ := r.one
  have fin : ∀ (h' : Heap) (t : Tok) (tk : Nat), (∀ b o, s.heap.get? b = some o → h'.get? b = some o) → EP X pins σ Q (.str d.py.shown t) { s with heap := h', toks := tk } := fun h' t tk hk => ⟨.str _, H, I.kept (t' := tk) hk, ⟨t, rfl⟩, q⟩
  have seqL : ∀ {a : Addr} {xs : List V} {ds : List D} {f : List Addr}, SqL X.K H a xs → Reps X.K mg cs B H xs ds f → D.shws ds = true → d.py = .list (D.pys ds) → wpAny (model X.prog X.w) X.A (PySem.call (.builtin "repr") [.ref a]) (EP X pins σ Q) X.xe s := fun {a xs ds f} hq rs hss e => by
    rw [e] at fin hz hdp
    have hz' : (listText (PyData.shownAll (D.pys ds))).length ≤ sizeLine := by simpa only [PyData.shown] using hz
    obtain ⟨its, rv, ⟨o, n, ho, hc, _, hd⟩, _⟩ := I.list hq
    obtain ⟨bs, as, h1, h2, h3⟩ := rks I rs rv hss fun t ht => Nat.le_trans (listText_mem_le ht) hz'
    have r : Reads s.heap (.ref a) (.list (D.pys ds)) (a :: as) := .list ho hc hd (by simpa using h1)
    simp only [PyData.depth] at hdp
    simp only [PyData.shown] at fin
    refine call_repr_slot (by omega) ⟨o, ho, hc⟩ F.slot_list_repr.toG ?_
    cases its with
    | nil =>
      have e : PyData.shownAll (D.pys ds) = [] := by generalize PyData.shownAll (D.pys ds) = z at h3; cases h3; rfl
      rw [e, listText_nil] at fin
      exact call_list_repr_empty ⟨o, ho, hc⟩ ho hd ⟨_, _, rfl, fin s.heap _ _ fun _ _ z => z⟩
    | cons y l =>
      exact call_list_reprK ho hc hd (not_mem_of_deeper r (by simp only [PyData.depth]; omega) h2) (by simpa using h3.length_eq) (fun i z ez => h3.item i z (by simpa using ez)) hg (fun b _ => Clear.nil b) (by show X.A.units + 1 + _ < cLine; omega) (fun _ _ z => z)
        (fun h' t tk hk => ⟨_, _, rfl, fin h' t tk hk⟩) hz'
  cases rp with
  | none => cases ru; exact PySem.P.repr_of_none (fin s.heap _ _ fun _ _ z => z)
  | bool b =>
    cases ru
    refine PySem.P.repr_of_bool ?_
    simp only [D.py, PyData.shown] at fin
    exact fin s.heap _ _ fun _ _ z => z
  | int i =>
    obtain ⟨t, rfl⟩ := ru
    exact PySem.P.repr_of_int (by simpa [D.shw] using hs) (fin s.heap _ _ fun _ _ z => z)
  | str x =>
    obtain ⟨t, rfl⟩ := ru
    exact PySem.P.repr_of_str (fin s.heap _ _ fun _ _ z => z) (by simpa only [D.py, PyData.shown] using hz)
  | frz h rs => cases ru; exact seqL (h.elim .inr fun ⟨o, z⟩ => .inl (.inr ⟨o, z⟩)) rs (by simpa [D.shw] using hs) rfl
  | lstS h _ rs => cases ru; exact seqL (.of h) rs (by simpa [D.shw] using hs) rfl
  | lstO h rs => cases ru; exact seqL (.of h) rs (by simpa [D.shw] using hs) rfl
  | @tup a xs ds f h rs =>
    cases ru
    simp only [D.py] at fin hz hdp
    have hz' : (tupleText (PyData.shownAll (D.pys ds))).length ≤ sizeLine := by simpa only [PyData.shown] using hz
    obtain ⟨its, rv, ⟨o, ho, hc, n, hd⟩, _⟩ := I.tuple h
    obtain ⟨bs, as, h1, h2, h3⟩ := rks I rs rv (by simpa [D.shw] using hs) fun t ht => Nat.le_trans (tupleText_mem_le ht) hz'
    have r : Reads s.heap (.ref a) (.tuple (D.pys ds)) as := .tuple ho hc hd (by simpa using h1)
    simp only [PyData.depth] at hdp
    simp only [PyData.shown] at fin
    refine call_repr_slot (by omega) ⟨o, ho, hc⟩ F.slot_tuple_repr ?_
    exact call_tuple_reprK ho hc hd (not_mem_of_deeper r (by simp only [PyData.depth]; omega) h2) (by simpa using h3) hg (fun b _ => Clear.nil b) (by show X.A.units + 1 + _ < cLine; omega) (fun _ _ z => z)
      (fun h' t tk hk => ⟨_, _, rfl, fin h' t tk hk⟩) hz'
  | @dic a kvs ds h _ =>
    cases ru
    have e0 : kvs = [] := by simpa [D.shw] using hs
    subst e0
    simp only [D.py] at fin hz hdp
    obtain ⟨o, n, h1, h2, h3, h4⟩ := dic_at I h
    simp only [PyData.shown, PyData.shownKv] at fin hz
    refine call_repr_slot (by omega) ⟨o, h1, h2⟩ F.slot_dict_repr ?_
    exact call_dict_reprK (d := 0) (as := []) h1 h2 h3 h4 List.not_mem_nil .nil hg (fun b _ => Clear.nil b) (by show X.A.units + 1 + _ < cLine; omega) (fun _ _ z => z) (fun h' t tk hk => ⟨_, _, rfl, fin h' t tk hk⟩) hz
  | cell _ => simp [D.shw] at hs
  | exc _ _ _ _ => simp [D.shw] at hs
  | fn _ => simp [D.shw] at hs
  | ty _ => simp [D.shw] at hs
def reprD : List D → Option D
  | [d] => if d.shw && decide (d.py.shown.length ≤ sizeLine) && decide (d.py.depth ≤ 60) then some (.str d.py.shown) else none
  | _ => none
theorem ci_repr : ClI X (rReprD X) reprD := by
  intro cs H xs ds z f Q r hz k
  unfold reprD at hz
  split at hz
  · split at hz
    · rename_i h
      cases hz
      simp only [Bool.and_eq_true, decide_eq_true_eq] at h
      obtain ⟨v, rfl, r1⟩ := reps1 r
      exact ⟨_, _, _, v, _, f, rfl, r1, h.1.1, h.1.2, h.2, k _ (.str _)⟩
    · cases hz
  · cases hz
end
end DL
namespace DL
open PySem L2
section
variable {X : Cx} {W : WX}
/-! ### xs[i] = e, xs[i] += e, x += e -/
/-- the items of the list in slot k now -/
def nowL (s : Sg) (k : Nat) : Option (List D) :=
  match s.ρ[k]? with
  | some (some (.lst true ds)) => some ds
  | some (some (.cell c)) => s.μ[c]?
  | _ => none
def putL (s : Sg) (k : Nat) (ds' : List D) : Option Sg :=
  match s.ρ[k]? with
  | some (some (.lst true _)) => some ⟨s.ρ.set k (some (.lst true ds')), s.μ⟩
  | some (some (.cell c)) => some ⟨s.ρ, s.μ.set c ds'⟩
  | _ => none
theorem isL_now {s : Sg} {k : Nat} : isL s k = (nowL s k).isSome := by
  unfold isL nowL
  split <;> simp_all
theorem Good.nowL {Γ : Gm} {cs : List Addr} {H : Hp} {σ : St} {s : Sg} {T : Tmp} {Fs Ft : List Addr} (g : Good Γ cs H σ s.ρ s.μ T Fs Ft) {k : Nat} {ds : List D} (e : DL.nowL s k = some ds) : ∃ a xs f, σ[k]? = some (some (.ref a)) ∧ H a = some (.lst xs) ∧ Reps Γ.K Γ.mg cs [] H xs ds f := by
  unfold DL.nowL at e
  split at e
  · rename_i ds' e1
    cases e
    obtain ⟨v, f, _, h1, r1, _⟩ := g.sl.out e1
    cases r1 with
    | lstO hp rs => exact ⟨_, _, _, h1, hp, rs.loose⟩
  · rename_i c e1
    obtain ⟨v, f, _, h1, r1, _⟩ := g.sl.out e1
    cases r1 with
    | cell hc =>
      obtain ⟨xs, hx, rs⟩ := g.cell hc e
      exact ⟨_, xs, [], h1, hx, rs.loose⟩
  · cases e
/-- one item is another: the top temp's -/
theorem Good.putL {Γ : Gm} {cs : List Addr} {H : Hp} {σ : St} {s s' : Sg} {T : Tmp} {Fs Ft : List Addr} {v : V} {d : D} {k j : Nat} {ds : List D} {a : Addr} {xs : List V} (g : Good Γ cs H σ s.ρ s.μ ((v, .val d) :: T) Fs Ft)
    (e : DL.nowL s k = some ds) (e' : DL.putL s k (ds.set j d.share) = some s') (ha : σ[k]? = some (some (.ref a))) (hx : H a = some (.lst xs)) : ∃ Fs' Ft', Good Γ cs (upd H a (.lst (xs.set j v))) σ s'.ρ s'.μ T Fs' Ft' := by
  obtain ⟨F1, g1⟩ := g.shareTop
  have t1 := g1.tm
  generalize hT : ((v, .val d.share) :: T : Tmp) = T' at t1
  cases t1 with
  | nil => cases hT
  | pk h t => cases hT
  | @val v1 d1 f1 T1 f' r t =>
    cases hT
    have ef := r.free (D.free_share d)
    subst ef
    have g2 := g1.pops (f := []) rfl t
    simp only [List.nil_append] at r
    have hset : ∀ {B : List Addr} {ys : List V} {es : List D} {f : List Addr}, Reps Γ.K Γ.mg cs B H ys es f → Rep Γ.K Γ.mg cs B H v d.share [] → ∀ j, ∃ f2, Reps Γ.K Γ.mg cs B H (ys.set j v) (es.set j d.share) f2 ∧ ∀ b, f2.count b ≤ f.count b := by
      intro B ys
      induction ys with
      | nil => intro es f h _ j; cases h; exact ⟨[], by simpa using .nil, fun _ => Nat.le_refl _⟩
      | cons y ys ih =>
        intro es f h rv j
        cases h with
        | cons r1 r2 =>
          cases j with
          | zero => exact ⟨_, by simpa using Reps.cons rv r2, fun b => by simp only [List.count_append]; omega⟩
          | succ j =>
            obtain ⟨f2, h1, h2⟩ := ih r2 rv j
            exact ⟨_, by simpa using Reps.cons r1 h1, fun b => by have := h2 b; simp only [List.count_append]; omega⟩
    unfold DL.nowL at e
    unfold DL.putL at e'
    split at e
    · rename_i ds' e1
      rw [e1] at e'
      cases e; cases e'
      obtain ⟨v', F3, F4, h3, g3⟩ := g1.getMv e1
      rw [ha] at h3; cases h3
      obtain ⟨p, xs', f, f3, ep, rfl, hp, rs, t3⟩ := g3.ownT
      cases ep
      rw [hx] at hp; cases hp
      generalize hT : ((v, .val d.share) :: T : Tmp) = T' at t3
      cases t3 with
      | nil => cases hT
      | pk h t => cases hT
      | @val v9 d9 f9 T9 f3 rv t3 =>
      cases hT
      have ef := rv.free (D.free_share d)
      subst ef
      simp only [List.nil_append] at rs rv t3 g3
      obtain ⟨f2, r2, hc⟩ := hset rs rv j
      have g4 := g3.rewr (p := a) (f := f) (f' := f3) (U := []) (f2 := []) (fun b => Nat.le_refl _) hx t3 r2 .nil (fun b => by have := hc b; simp only [List.count_nil]; omega)
      obtain ⟨F5, F6, g5⟩ := g4.back (List.getElem?_eq_some_iff.mp e1).1 ha
      exact ⟨F5, F6, g5⟩
    · rename_i c e1
      rw [e1] at e'
      cases e'
      obtain ⟨v', f4, _, h4, r4, _⟩ := g2.sl.out e1
      rw [ha] at h4; cases h4
      cases r4 with
      | cell hc =>
        obtain ⟨xs', hx', rs⟩ := g2.cell hc e
        rw [hx] at hx'; cases hx'
        obtain ⟨f2, r2, hc2⟩ := hset rs r j
        have e2 : f2 = [] := nil_of_count fun b => by have := hc2 b; simp at this; omega
        subst e2
        exact ⟨Fs, _, g2.cset hc hx r2⟩
    · cases e
/-- the place of an index -/
def ixOf (i : It) (s : Sg) (n : Nat) : Option Nat :=
  match i.at s.ρ with
  | some (.int j) => ixN n j
  | _ => none
def toX (k : Nat) (m : M It) : Tgt := fun d s => if isL s k then
  match m s with
  | some (.ok i, s1) => match nowL s1 k with
    | some ds => match ixOf i s1 ds.length with
      | some j => putL s1 k (ds.set j d.share)
      | none => none
    | none => none
  | _ => none
  else none
theorem Good.recv {Γ : Gm} {cs : List Addr} {H : Hp} {σ : St} {s : Sg} {T : Tmp} {Fs Ft : List Addr} (g : Good Γ cs H σ s.ρ s.μ T Fs Ft) {k : Nat} (e : isL s k = true) : ∃ a, σ[k]? = some (some (.ref a)) := by
  rw [isL_now] at e
  obtain ⟨ds, h⟩ := Option.isSome_iff_exists.mp e
  obtain ⟨a, _, _, h1, _⟩ := g.nowL h
  exact ⟨a, h1⟩
theorem ixOf_at {i : It} {s : Sg} {n j : Nat} (e : ixOf i s n = some j) : ∃ z, i.at s.ρ = some (.int z) ∧ ixN n z = some j := by
  unfold ixOf at e
  split at e
  · rename_i z h; exact ⟨z, h, e⟩
  · cases e
theorem gX {o i : Expr} {k : Nat} {m : M It} {pos : Pos} (ho : PE X o (tVar k)) (hi : PE X i (TD X (fun _ _ _ _ => False) m))
    (ha : ∀ v, assign (.Subscript o i pos) X.env v = (do
      let ov ← holding [v] (eval o X.env)
      let iv ← holding [v, ov] (eval i X.env)
      standAt pos
      holding [v, ov, iv] (setItem ov iv v)
      release [v, ov, iv] []) := by intro _; rfl) : PG X (.Subscript o i pos) (TGt X [] (toX k m)) :=
  PG.imp (pg_sub ho hi set_list ha) fun v σ H Q ⟨Γ, cs, s, s', T, d, Fs, Ft, hK, hM, np, g, e, a⟩ => by
    unfold toX at e
    split at e
    · rename_i hl
      obtain ⟨a0, h0⟩ := g.recv hl
      refine ⟨.ref a0, h0, ?_⟩
      split at e
      · rename_i it s1 e1
        split at e
        · rename_i ds e2
          split at e
          · rename_i j e3
            obtain ⟨z, h1, h2⟩ := ixOf_at e3
            refine TD.go hK hM g ?_
            rw [e1]
            intro y H2 cs2 F1 F2 g2
            obtain ⟨f, r⟩ := g2.look h1
            cases r
            obtain ⟨F3, g3⟩ := g2.pop
            obtain ⟨ad, xs, f4, h4, h5, h6⟩ := g3.nowL e2
            rw [h0] at h4; cases h4
            obtain ⟨F5, F6, g5⟩ := g3.putL e2 e h0 h5
            exact ⟨a0, xs, z, j, rfl, rfl, h5, by rw [h6.length]; exact h2, a σ _ cs2 F5 F6 g5 rfl fun _ _ => rfl⟩
          · cases e
        · cases e
      · cases e
    · cases e
/-- xs[i] op= e on ints -/
def augX (f : Int → Int → Int) (k : Nat) (m n : M It) : M Fl := fun s0 => if isL s0 k then bnd m (fun i s1 =>
  match i.at s1.ρ, nowL s1 k with
  | some (.int j), some ds => match atI ds j with
    | some (.int x) => bnd n (fun l s2 => match l.at s2.ρ, nowL s2 k with
      | some (.int y), some es => match ixN es.length j with
        | some q => match putL s2 k (es.set q (.int (f x y))) with
          | some s3 => some (.ok .nx, s3)
          | none => none
        | none => none
      | _, _ => none) s1
    | _ => none
  | _, _ => none) s0 else none
theorem get_list : PGet X (rIxL X.K) := by
  intro pins s σ H o i ov iv Q I ro ri h
  obtain ⟨p, xs, z, v, rfl, rfl, hq, hz, q⟩ := h
  cases ro
  obtain ⟨t, rfl⟩ := ri
  obtain ⟨its, r, pl, hlen⟩ := I.list hq
  obtain ⟨j, h1, h2, h3, h4, h5⟩ := L2.atI_get hz
  obtain ⟨w, ew, rw'⟩ := r.get h2
  have hl := r.length
  have hn := line63
  have fin : EP X pins σ Q w s := ⟨v, H, I, rw', q⟩
  by_cases h0 : 0 ≤ z
  · have hj : z.toNat = j := Option.some.inj ((seqIndex_of h0 h5).symm.trans h1)
    exact wpAny_getItem_list pl.isList h0 (by omega) (by rw [hj]; simpa using ew) fin
  · have hj : (z + (its.toArray.size : Int)).toNat = j := by
      have e2 := (seqIndex_neg (by omega) h4).symm.trans h1
      rw [List.size_toArray, ← hl]
      exact Option.some.inj e2
    exact wpAny_getItem_list_neg pl.isList (by omega) (by simp only [List.size_toArray]; omega) (by omega) (by rw [hj]; simpa using ew) fin
theorem sAX {o i e : Expr} {op : Operator} {f : Int → Int → Int} {k : Nat} {m n : M It} {pos tpos : Pos} (hp : PIp X op (ipI f)) (ho : PE X o (tVar k)) (hi : PE X i (TD X W m)) (he : PE X e (TD X W n))
    (ha : ∀ ov iv new, augStore i ov iv new = (do holding [new, ov, iv] (setItem ov iv new); release [new, ov, iv] []; pure .next) := by intros; rfl) : PS X (.AugAssign (.Subscript o i tpos) op e pos) (TSt X W (augX f k m n)) :=
  PS.imp (ps_augS ho hi get_list he hp set_list ha) fun D σ H ⟨Γ, cs, s, T, Fs, Ft, hK, hM, np, g, a⟩ => by
    unfold augX at a
    split at a
    · rename_i hl
      obtain ⟨a0, h0⟩ := g.recv hl
      refine ⟨.ref a0, h0, TD.go hK hM g ((AfterS.bnd a).mono fun it s1 a1 v H1 cs1 Fs1 Ft1 g1 => ?_)⟩
      split at a1
      · rename_i j ds e1 e2
        split at a1
        · rename_i x e3
          obtain ⟨f1, r1⟩ := g1.look e1
          cases r1
          obtain ⟨F2, g2⟩ := g1.pop
          obtain ⟨ad, xs, f4, h4, h5, h6⟩ := g2.nowL e2
          rw [h0] at h4; cases h4
          obtain ⟨w, f5, h7, h8, _⟩ := atI_get h6 e3
          cases h8
          refine ⟨a0, xs, j, _, rfl, rfl, .of h5, h7, TD.go hK hM g2 ((AfterS.bnd a1).mono fun l s2 a2 w2 H2 cs2 Fs2 Ft2 g3 => ?_)⟩
          split at a2
          · rename_i y es e4 e5
            split at a2
            · rename_i q e6
              split at a2
              · rename_i s3 e7
                obtain ⟨f6, r6⟩ := g3.look e4
                cases r6
                obtain ⟨F7, g7⟩ := g3.pop
                obtain ⟨ad, ys, f8, h9, h10, h11⟩ := g7.nowL e5
                rw [h0] at h9; cases h9
                obtain ⟨F9, F10, g9⟩ := (g7.push0 (v := .int (f x y)) (d := .int (f x y)) (.int _)).putL (j := q) e5 e7 h0 h10
                exact ⟨x, y, rfl, rfl, a0, ys, j, q, rfl, rfl, h10, by rw [h11.length]; exact e6, a2 σ _ cs2 F9 F10 g9⟩
              · exact a2.elim
            · exact a2.elim
          · exact a2.elim
        · exact a1.elim
      · exact a1.elim
    · exact a.elim
/-- x op= e on ints -/
def augN (f : Int → Int → Int) (k : Nat) (n : M It) : M Fl := fun s0 =>
  match s0.ρ[k]? with
  | some (some (.int x)) => bnd n (fun l s => match l.at s.ρ with
    | some (.int y) => if k < s.ρ.length then some (.ok .nx, ⟨s.ρ.set k (some (.int (f x y))), s.μ⟩) else none
    | _ => none) s0
  | _ => none
theorem sAN {k : Nat} {x : Str} {e : Expr} {op : Operator} {f : Int → Int → Int} {n : M It} {pos pos' : Pos} (hN : X.N.Nodup) (hi : X.N[k]? = some x) (hx : Loc X.env.scope x) (he : PE X e (TD X W n)) (hp : PIp X op (ipI f)) (hf : X.fn x = true ∨ X.env.scope.names.lookup x = some .local := by first | exact .inl rfl | exact .inr rfl | assumption) :
    PS X (.AugAssign (.Name x pos') op e pos) (TSt X W (augN f k n)) :=
  PS.imp (ps_aug hN hi hx he hp hf) fun D σ H ⟨Γ, cs, s, T, Fs, Ft, hK, hM, np, g, a⟩ => by
    unfold augN at a
    split at a
    · rename_i x e1
      obtain ⟨v, f1, _, h1, r1, _⟩ := g.sl.out e1
      cases r1
      refine ⟨_, h1, TD.go hK hM g ((AfterS.bnd a).mono fun l s2 a2 w2 H2 cs2 Fs2 Ft2 g3 => ?_)⟩
      split at a2
      · rename_i y e2
        split at a2
        · rename_i hk
          obtain ⟨f6, r6⟩ := g3.look e2
          cases r6
          obtain ⟨F7, g7⟩ := g3.pop
          obtain ⟨F8, F9, g9⟩ := (g7.push0 (v := .int (f x y)) (d := .int (f x y)) (.int _)).set np (i := k) (by rw [g7.sl.len]; exact hk)
          exact ⟨x, y, rfl, rfl, a2 _ H2 cs2 F8 F9 g9⟩
        · exact a2.elim
      · exact a2.elim
    · exact a.elim
/-! ### a, b = x, y -/
def par2 (i j : Nat) (m : M (List It)) : M Fl := bnd m fun l s =>
  match vals? l with
  | some [d, e] => if i < s.ρ.length ∧ j < s.ρ.length then some (.ok .nx, ⟨(s.ρ.set i (some d)).set j (some e), s.μ⟩) else none
  | _ => none
def par3 (i j k : Nat) (m : M (List It)) : M Fl := bnd m fun l s =>
  match vals? l with
  | some [d, e, f] => if i < s.ρ.length ∧ j < s.ρ.length ∧ k < s.ρ.length then some (.ok .nx, ⟨((s.ρ.set i (some d)).set j (some e)).set k (some f), s.μ⟩) else none
  | _ => none
theorem s2 {i j : Nat} {x y : Str} {a b : Expr} {m : M (List It)} {px py pt pos : Pos} {kt k2 pt2} (hc : X.calm = true) (hN : X.N.Nodup) (hi : X.N[i]? = some x) (hj : X.N[j]? = some y) (hij : i ≠ j)
    (hx : X.env.scope.names.lookup x = some .local) (hy : X.env.scope.names.lookup y = some .local) (ha : PA X [a, b] (TAs X W m))
    (hw : swappedStores [.Tuple [.Name x px, .Name y py] kt pt] (.Tuple [a, b] k2 pt2) X.env = pure (some [x, y]))
    (hs : swapsWithSole [.Tuple [.Name x px, .Name y py] kt pt] (.Tuple [a, b] k2 pt2) pos.line X.env = pure false := by rfl) :
    PS X (.Assign [.Tuple [.Name x px, .Name y py] kt pt] (.Tuple [a, b] k2 pt2) pos) (TSt X W (par2 i j m)) :=
  PS.imp (ps_par hc hN hi hj hij hx hy ha hw hs) fun D σ H ⟨Γ, cs, s, T, Fs, Ft, hK, hM, np, g, a⟩ => TAs.go hK hM g ((AfterS.bnd a).mono fun l s2 a2 vs H2 cs2 Fs2 Ft2 hl g2 => by
    split at a2
    · rename_i d e ev
      split at a2
      · rename_i hb
        have e' := vals_eq ev
        subst e'
        match vs, hl with
        | [v, w], _ =>
          have hlen := g2.sl.len
          have g2' : Good Γ cs2 H2 σ s2.ρ s2.μ ((v, .val d) :: ((w, .val e) :: T)) Fs2 Ft2 := g2
          obtain ⟨F3, F4, g3⟩ := g2'.set (show noPk ((w, .val e) :: T) = true from np) (i := i) (by omega)
          obtain ⟨F5, F6, g5⟩ := g3.set np (i := j) (by rw [List.length_set]; omega)
          exact ⟨v, w, rfl, a2 _ _ cs2 F5 F6 g5⟩
      · exact a2.elim
    · exact a2.elim)
theorem s3 {i j k : Nat} {x y z : Str} {a b c : Expr} {m : M (List It)} {px py pz pt pos : Pos} {kt k2 pt2} (hc : X.calm = true) (hN : X.N.Nodup) (hi : X.N[i]? = some x) (hj : X.N[j]? = some y) (hk : X.N[k]? = some z) (hij : i ≠ j) (hik : i ≠ k) (hjk : j ≠ k)
    (hx : X.env.scope.names.lookup x = some .local) (hy : X.env.scope.names.lookup y = some .local) (hz : X.env.scope.names.lookup z = some .local) (ha : PA X [a, b, c] (TAs X W m))
    (hw : swappedStores [.Tuple [.Name x px, .Name y py, .Name z pz] kt pt] (.Tuple [a, b, c] k2 pt2) X.env = pure (some [x, y, z]))
    (hs : swapsWithSole [.Tuple [.Name x px, .Name y py, .Name z pz] kt pt] (.Tuple [a, b, c] k2 pt2) pos.line X.env = pure false := by rfl) :
    PS X (.Assign [.Tuple [.Name x px, .Name y py, .Name z pz] kt pt] (.Tuple [a, b, c] k2 pt2) pos) (TSt X W (par3 i j k m)) :=
  PS.imp (ps_par3 hc hN hi hj hk hij hik hjk hx hy hz ha hw hs) fun D σ H ⟨Γ, cs, s, T, Fs, Ft, hK, hM, np, g, a⟩ => TAs.go hK hM g ((AfterS.bnd a).mono fun l s2 a2 vs H2 cs2 Fs2 Ft2 hl g2 => by
    split at a2
    · rename_i d e f ev
      split at a2
      · rename_i hb
        have e' := vals_eq ev
        subst e'
        match vs, hl with
        | [u, v, w], _ =>
          have hlen := g2.sl.len
          have g2' : Good Γ cs2 H2 σ s2.ρ s2.μ ((u, .val d) :: ((v, .val e) :: ((w, .val f) :: T))) Fs2 Ft2 := g2
          obtain ⟨F3, F4, g3⟩ := g2'.set (show noPk ((v, .val e) :: (w, .val f) :: T) = true from np) (i := i) (by omega)
          obtain ⟨F5, F6, g5⟩ := g3.set (show noPk ((w, .val f) :: T) = true from np) (i := j) (by rw [List.length_set]; omega)
          obtain ⟨F7, F8, g7⟩ := g5.set np (i := k) (by rw [List.length_set, List.length_set]; omega)
          exact ⟨u, v, w, rfl, a2 _ _ cs2 F7 F8 g7⟩
      · exact a2.elim
    · exact a2.elim)
theorem After.pushU {α : Type} {Γ : Gm} {σ : St} {T : Tmp} {k : α → Sg → Prop} {o : Option (R α × Sg)} : ∀ {U : Tmp}, After W Γ σ T k o → After W Γ σ (U ++ T) k o
  | [], h => h
  | (x, it) :: U, h => (After.pushU (U := U) h).push
/-! ### [*xs, y] -/
/-- the things of a list or tuple in hand -/
def spill (i : It) (s : Sg) : Option (List D) :=
  match i with
  | .val (.lst true ds) => some ds
  | .val (.tup ds) => some ds
  | i => match i.sate s with
    | some (.lst _ ds) => some ds
    | some (.frz ds) => some ds
    | some (.tup ds) => some ds
    | _ => none
def argsS (m : M It) (n : M (List It)) : M (List It) := bnd m fun i s1 =>
  match spill i s1 with
  | some ds => bnd n (fun l => ret (ds.map .val ++ l)) s1
  | none => none
theorem Good.spill {Γ : Gm} {cs : List Addr} {H : Hp} {σ : St} {s : Sg} {T : Tmp} {Fs Ft : List Addr} {v : V} {i : It} (g : Good Γ cs H σ s.ρ s.μ ((v, i) :: T) Fs Ft) {ds : List D} (e : DL.spill i s = some ds) :
    ∃ p xs Ft', v = .ref p ∧ (SqT Γ.K H p xs ∨ SqL Γ.K H p xs) ∧ xs.length = ds.length ∧ Good Γ cs H σ s.ρ s.μ (vals xs ds ++ T) Fs Ft' := by
  have gen : ∀ d, i.sate s = some d → (match (some d : Option D) with
    | some (.lst _ ds) => some ds
    | some (.frz ds) => some ds
    | some (.tup ds) => some ds
    | _ => none) = some ds → ∃ p xs Ft', v = .ref p ∧ (SqT Γ.K H p xs ∨ SqL Γ.K H p xs) ∧ xs.length = ds.length ∧ Good Γ cs H σ s.ρ s.μ (vals xs ds ++ T) Fs Ft' := fun d hd hm => by
    obtain ⟨F2, g2, r, _⟩ := g.sate hd
    split at hm
    · rename_i o ds' h; cases h; cases hm
      obtain ⟨a, xs, rfl, h1, rs⟩ := r.lstT
      exact ⟨a, xs, _, rfl, .inr (.of h1), rs.length, g2.pushs0 rs⟩
    · rename_i ds' h; cases h; cases hm
      obtain ⟨a, xs, rfl, h1, rs, _⟩ := (r.un (by nofun)).frzL
      exact ⟨a, xs, _, rfl, .inr h1, rs.length, g2.pushs0 rs⟩
    · rename_i ds' h; cases h; cases hm
      obtain ⟨a, xs, rfl, h1, rs⟩ := ((r.un (by nofun)).seq).2 _ rfl
      exact ⟨a, xs, _, rfl, .inl h1, rs.length, g2.pushs0 rs⟩
    · cases hm
  unfold DL.spill at e
  split at e
  · cases e
    obtain ⟨p, xs, f, f', rfl, rfl, hp, rs, t⟩ := g.ownT
    refine ⟨p, xs, f ++ f', rfl, .inr (.of hp), rs.length, ?_⟩
    have nd := g.nd
    simp only [List.count_append, List.count_cons] at nd
    have hB : ∀ a ∈ Fs ++ (f ++ f') ++ cs ++ Γ.G, a ∈ Fs ++ (p :: f ++ f') ++ cs ++ Γ.G := fun a h => by
      simp only [List.mem_append, List.mem_cons] at h ⊢
      rcases h with ((h | h | h) | h) | h <;> simp [h]
    refine Good.mk0 g.sl (Temps.of_reps rs t) g.ce (fun a h => hB a (by simpa [or_assoc] using h)) (fun a => ?_) g.kp (fun a h => ?_) g.c1 g.c2 g.g0
    · have := nd a; simp only [List.count_append]; omega
    · refine g.fr a (h.imp_right fun h => ?_)
      simp only [List.mem_append, List.mem_cons] at h ⊢
      rcases h with h | h <;> simp [h]
  · cases e
    obtain ⟨a, vs, rfl, hq, hl, g2⟩ := g.open
    exact ⟨a, vs, _, rfl, .inl hq, hl, g2⟩
  · cases hs : i.sate s with
    | none => rw [hs] at e; cases e
    | some d => rw [hs] at e; exact gen d hs e
theorem zip_app {vs ws : List V} {ds : List D} {l : List It} {T : Tmp} (hl : vs.length = ds.length) : List.zip (vs ++ ws) (ds.map It.val ++ l) ++ T = vals vs ds ++ (List.zip ws l ++ T) := by
  rw [List.zip_append (by simpa using hl), List.append_assoc]
theorem aS {e : Expr} {es : List Expr} {p : Pos} {m : M It} {n : M (List It)} (h : PE X e (TD X W m)) (k : PA X es (TAs X W n)) (hs : starEach (.Starred e p :: es) X.env = (true, eval e X.env) :: starEach es X.env := by rfl) : PA X (.Starred e p :: es) (TAs X W (argsS m n)) :=
  PA.imp (StX.pa_star h k hs) fun σ H Q ⟨Γ, cs, s, T, Fs, Ft, hK, hM, g, a⟩ => TD.go hK hM g (a.bnd.mono fun i s1 a1 v1 H1 cs1 Fs1 Ft1 g1 => by
    split at a1
    · rename_i ds e1
      obtain ⟨p, xs, F2, rfl, hq, hl, g2⟩ := g1.spill e1
      refine ⟨p, xs, rfl, by rw [← hK]; exact hq, TAs.go hK hM g2 ?_⟩
      have a2 := After.pushU (U := vals xs ds) a1.bnd
      refine a2.mono fun l s2 a3 vs H2 cs2 Fs2 Ft2 hl2 g3 => ?_
      obtain ⟨F3, g4⟩ := g3.perm (U := vals xs ds ++ (List.zip vs l ++ T)) (by
        rw [← List.append_assoc, ← List.append_assoc]
        exact (List.perm_append_comm).append_right T)
      exact a3 (xs ++ vs) H2 cs2 Fs2 F3 (by simp [hl, hl2]) (by rw [zip_app hl]; exact g4)
    · exact a1.elim)
end
end DL
namespace DL
open PySem L2
section
variable {X : Cx} {W : WX}
/-! ### zip, enumerate -/
/-- a list, or a cell's list, now -/
def view : D → Cells → Option (List D)
  | .lst false ds, _ => some ds
  | .frz ds, _ => some ds
  | .cell k, μ => μ[k]?
  | _, _ => none
/-- .. not a cell's -/
def fixed : D → Bool
  | .cell _ => false
  | _ => true
theorem Temps.mem {K : PySem.W.Frag} {mg : Str → Option Value} {cs B : List Addr} {H : Hp} {σ : St} {T : Tmp} {F : List Addr} (h : Temps K mg cs B H σ T F) {v : V} {d : D} (m : (v, It.val d) ∈ T) : ∃ f, Rep K mg cs B H v d f := by
  induction h with
  | nil => cases m
  | pk e t ih =>
    rcases List.mem_cons.mp m with m | m
    · cases m
    · exact ih m
  | val r t ih =>
    rcases List.mem_cons.mp m with m | m
    · cases m; exact ⟨_, r⟩
    · exact ih m
theorem Good.view {Γ : Gm} {cs : List Addr} {H : Hp} {σ : St} {ρ : Env} {μ : Cells} {T : Tmp} {Fs Ft : List Addr} {v : V} {d : D} (g : Good Γ cs H σ ρ μ T Fs Ft) (m : (v, It.val d) ∈ T) {ds : List D} (e : DL.view d μ = some ds) :
    ∃ a xs, v = .ref a ∧ SqL Γ.K H a xs ∧ Reps Γ.K Γ.mg cs (Fs ++ Ft ++ cs ++ Γ.G) H xs ds [] := by
  obtain ⟨f, r⟩ := g.tm.mem m
  unfold DL.view at e
  split at e
  · cases e
    cases r with
    | lstS h n rs => exact ⟨_, _, rfl, .of h, rs⟩
  · cases e
    obtain ⟨a, xs, rfl, h1, rs, _⟩ := r.frzL
    exact ⟨a, xs, rfl, h1, rs⟩
  · cases r with
    | cell hc =>
      obtain ⟨xs, hx, rs⟩ := g.cell hc e
      exact ⟨_, xs, rfl, .of hx, rs⟩
  · cases e
theorem Good.viewS {Γ : Gm} {cs : List Addr} {H : Hp} {σ : St} {ρ : Env} {μ : Cells} {T : Tmp} {Fs Ft : List Addr} {v : V} {d : D} (g : Good Γ cs H σ ρ μ T Fs Ft) (m : (v, It.val d) ∈ T) (hd : ∀ μ0 : Cells, (∃ ds, DL.view d μ0 = some ds) → (∃ k, d = .cell k) ∨ (DL.view d μ = DL.view d μ0)) {μ0 : Cells} {ds0 : List D} (e0 : DL.view d μ0 = some ds0) : ∃ ds, DL.view d μ = some ds := by
  rcases hd μ0 ⟨_, e0⟩ with ⟨k, rfl⟩ | h
  · obtain ⟨f, r⟩ := g.tm.mem m
    cases r with
    | cell hc =>
      have hl := g.ce.len
      obtain ⟨hk, _⟩ := List.getElem?_eq_some_iff.mp hc
      exact ⟨μ[k]'(by omega), by simp [DL.view]⟩
  · exact ⟨ds0, h.trans e0⟩
theorem view_any {d : D} {μ μ0 : Cells} (h : ∃ ds, DL.view d μ0 = some ds) : (∃ k, d = .cell k) ∨ (DL.view d μ = DL.view d μ0) := by
  obtain ⟨ds, e⟩ := h
  unfold DL.view at e ⊢
  split at e
  · exact .inr rfl
  · exact .inr rfl
  · exact .inl ⟨_, rfl⟩
  · cases e
def zipIt (d e : D) (μ : Cells) (i : Nat) : Option D :=
  match view d μ, view e μ with
  | some xs, some ys => match xs[i]?, ys[i]? with
    | some x, some y => some (.tup [x, y])
    | _, _ => none
  | _, _ => none
theorem Good.pair {Γ : Gm} {cs : List Addr} {H : Hp} {σ : St} {ρ : Env} {μ : Cells} {T : Tmp} {Fs Ft : List Addr} (g : Good Γ cs H σ ρ μ T Fs Ft) {p : Addr} {v w : V} {d e : D} (hp : H p = none)
    (r1 : Rep Γ.K Γ.mg cs (Fs ++ Ft ++ cs ++ Γ.G) H v d []) (r2 : Rep Γ.K Γ.mg cs (Fs ++ Ft ++ cs ++ Γ.G) H w e []) : Good Γ cs (upd H p (.tup [v, w])) σ ρ μ ((.ref p, .val (.tup [d, e])) :: T) Fs Ft :=
  (g.pushs0 (vs := [v, w]) (ds := [d, e]) (.cons (f := []) (g := []) r1 (.cons (f := []) (g := []) r2 .nil))).allocT rfl hp
theorem jZip {K : PySem.W.Frag} {a b : Addr} {d e : D} {src : Src} {μ0 : Cells} {ds0 es0 : List D} (hK : K = X.K) (hd : view d μ0 = some ds0) (he : view e μ0 = some es0) (hs : ∀ μ i, src.item μ i = zipIt d e μ i) : JOk X (Itz K a b) [(.ref a, .val d), (.ref b, .val e)] src where
  np := rfl
  stop := fun Γ cs H σ ρ μ T Fs Ft i hK' hM g hi _ => by
    rw [hs] at hi
    obtain ⟨ds, e1⟩ := g.viewS (v := .ref a) (by simp) (fun μ0 h => view_any h) hd
    obtain ⟨es, e2⟩ := g.viewS (v := .ref b) (by simp) (fun μ0 h => view_any h) he
    obtain ⟨a', xs, ea, hq, rs⟩ := g.view (v := .ref a) (by simp) e1
    obtain ⟨b', ys, eb, hq2, rs2⟩ := g.view (v := .ref b) (by simp) e2
    cases ea; cases eb
    refine ⟨xs, ys, by rw [hK, ← hK']; exact hq, by rw [hK, ← hK']; exact hq2, ?_⟩
    unfold zipIt at hi
    rw [e1, e2] at hi
    dsimp only at hi
    rw [rs.length, rs2.length]
    split at hi
    · cases hi
    · rename_i hn
      by_cases h1 : i < ds.length
      · by_cases h2 : i < es.length
        · exact absurd (List.getElem?_eq_getElem h2) (hn _ _ (List.getElem?_eq_getElem h1))
        · exact .inr (by omega)
      · exact .inl (by omega)
  go := fun Γ cs H σ ρ μ T Fs Ft i x hK' hM g hi => by
    rw [hs] at hi
    obtain ⟨ds, e1⟩ := g.viewS (v := .ref a) (by simp) (fun μ0 h => view_any h) hd
    obtain ⟨es, e2⟩ := g.viewS (v := .ref b) (by simp) (fun μ0 h => view_any h) he
    obtain ⟨a', xs, ea, hq, rs⟩ := g.view (v := .ref a) (by simp) e1
    obtain ⟨b', ys, eb, hq2, rs2⟩ := g.view (v := .ref b) (by simp) e2
    cases ea; cases eb
    unfold zipIt at hi
    rw [e1, e2] at hi
    dsimp only at hi
    split at hi
    · rename_i y z h1 h2
      cases hi
      obtain ⟨v, hv, rv⟩ := rs.get h1
      obtain ⟨w, hw, rw'⟩ := rs2.get h2
      refine ⟨⟨xs, ys, v, w, by rw [hK, ← hK']; exact hq, by rw [hK, ← hK']; exact hq2, hv, hw⟩, fun x H' yy => ?_⟩
      obtain ⟨p, v', w', rfl, hp, rfl, h3, h4⟩ := yy
      have q1 := h3 xs (by rw [hK, ← hK']; exact hq)
      have q2 := h4 ys (by rw [hK, ← hK']; exact hq2)
      rw [hv] at q1; rw [hw] at q2
      cases q1; cases q2
      exact ⟨Fs, Ft, g.pair hp rv rw'⟩
    · cases hi
/-- .. of two tuples -/
theorem jZipT {K : PySem.W.Frag} {a b : Addr} {ds es : List D} (hK : K = X.K) (hd : D.frees ds = true) (he : D.frees es = true) : JOk X (RZ.ItzT K a b) [(.ref a, .val (.tup ds)), (.ref b, .val (.tup es))] (.fix (List.zipWith (fun x y => .tup [x, y]) ds es)) where
  np := rfl
  stop := fun Γ cs H σ ρ μ T Fs Ft i hK' hM g hi _ => by
    obtain ⟨f1, r1⟩ := g.tm.mem (v := .ref a) (d := .tup ds) (by simp)
    obtain ⟨f2, r2⟩ := g.tm.mem (v := .ref b) (d := .tup es) (by simp)
    obtain ⟨a', xs, ea, hq, rs⟩ := (r1.seq).2 _ rfl
    obtain ⟨b', ys, eb, hq2, rs2⟩ := (r2.seq).2 _ rfl
    cases ea; cases eb
    refine ⟨xs, ys, by rw [hK, ← hK']; exact hq, by rw [hK, ← hK']; exact hq2, ?_⟩
    have hi' : (List.zipWith (fun x y => D.tup [x, y]) ds es)[i]? = none := hi
    have := List.getElem?_eq_none_iff.mp hi'
    rw [List.length_zipWith] at this
    rw [rs.length, rs2.length]
    omega
  go := fun Γ cs H σ ρ μ T Fs Ft i x hK' hM g hi => by
    obtain ⟨f1, r1⟩ := g.tm.mem (v := .ref a) (d := .tup ds) (by simp)
    obtain ⟨f2, r2⟩ := g.tm.mem (v := .ref b) (d := .tup es) (by simp)
    obtain ⟨a', xs, ea, hq, rs⟩ := (r1.seq).2 _ rfl
    obtain ⟨b', ys, eb, hq2, rs2⟩ := (r2.seq).2 _ rfl
    cases ea; cases eb
    have ef := rs.free hd
    have eg := rs2.free he
    subst ef eg
    have hi' : (List.zipWith (fun x y => D.tup [x, y]) ds es)[i]? = some x := hi
    rw [List.getElem?_zipWith] at hi'
    split at hi'
    · rename_i y z h1 h2
      cases hi'
      obtain ⟨v, hv, rv⟩ := rs.get h1
      obtain ⟨w, hw, rw'⟩ := rs2.get h2
      refine ⟨⟨xs, ys, v, w, by rw [hK, ← hK']; exact hq, by rw [hK, ← hK']; exact hq2, hv, hw⟩, fun x H' yy => ?_⟩
      obtain ⟨p, v', w', rfl, hp, rfl, h3, h4⟩ := yy
      have q1 := h3 xs (by rw [hK, ← hK']; exact hq)
      have q2 := h4 ys (by rw [hK, ← hK']; exact hq2)
      rw [hv] at q1; rw [hw] at q2
      cases q1; cases q2
      exact ⟨Fs, Ft, g.pair hp rv rw'⟩
    · cases hi'
/-- the walk over two, by what they are -/
def zipS (d e : D) (μ : Cells) : Option Src :=
  match d, e with
  | .tup ds, .tup es => some (.fix (List.zipWith (fun x y => .tup [x, y]) ds es))
  | d, e => match view d μ, view e μ with
    | some xs, some ys => if fixed d && fixed e then some (.fix (List.zipWith (fun x y => .tup [x, y]) xs ys)) else some (.dyn (min xs.length ys.length + 1) (zipIt d e))
    | _, _ => none
def itZ (m : M (List It)) : M Src := bnd m fun l s =>
  match satAll s.ρ l with
  | some [d, e] => match zipS d e s.μ with
    | some src => some (.ok src, s)
    | none => none
  | _ => none
theorem view_fix {d : D} {μ μ0 : Cells} {ds : List D} (h : fixed d = true) (e : view d μ0 = some ds) : view d μ = some ds := by
  rcases view_any (μ := μ) ⟨_, e⟩ with ⟨k, rfl⟩ | h2
  · cases h
  · exact h2.trans e
theorem zipS_ok {d e : D} {μ : Cells} {src : Src} (h : zipS d e μ = some src) (hd : d.free = true) (he : e.free = true) :
    (∃ ds es, d = .tup ds ∧ e = .tup es ∧ src = .fix (List.zipWith (fun x y => .tup [x, y]) ds es) ∧ D.frees ds = true ∧ D.frees es = true) ∨
    (∃ xs ys, view d μ = some xs ∧ view e μ = some ys ∧ ∀ μ' i, src.item μ' i = zipIt d e μ' i) := by
  unfold zipS at h
  split at h
  · rename_i ds es
    cases h
    exact .inl ⟨_, _, rfl, rfl, rfl, by simpa [D.free] using hd, by simpa [D.free] using he⟩
  · split at h
    · rename_i xs ys h1 h2
      refine .inr ⟨xs, ys, h1, h2, fun μ' i => ?_⟩
      split at h
      · rename_i hf
        rw [Bool.and_eq_true] at hf
        cases h
        show (List.zipWith _ xs ys)[i]? = _
        unfold zipIt
        rw [view_fix hf.1 h1, view_fix hf.2 h2, List.getElem?_zipWith]
        dsimp only
        cases xs[i]? <;> cases ys[i]? <;> rfl
      · cases h
        rfl
    · cases h
theorem zip_go {tg e1 e2 : Expr} {m : M (List It)} {σ : St} {H : Hp} {R : L2.It → Hp → Prop} (h : TIt X W (itZ m) σ H R) : RZ.iZipA X.K (TAs X W m) σ H R := by
  obtain ⟨Γ, cs, s, T, Fs, Ft, hK, hM, g, a⟩ := h
  refine TAs.go hK hM g (a.bnd.mono fun l s1 a1 vs H1 cs1 Fs1 Ft1 hl g1 => ?_)
  split at a1
  · rename_i d e hs
    split at a1
    · rename_i src hz
      obtain ⟨F2, g2, r, hf, _⟩ := Good.satAll hl g1 hs
      simp only [D.frees, Bool.and_eq_true, Bool.and_true] at hf
      obtain ⟨v, w, f1, f2, rfl, hff, r1, r2⟩ := reps2 r
      obtain ⟨rfl, rfl⟩ := List.append_eq_nil_iff.mp hff.symm
      have g3 : Good Γ cs1 H1 σ s1.ρ s1.μ ((v, .val d) :: (w, .val e) :: T) Fs1 F2 := g2.pushs0 (vs := [v, w]) (ds := [d, e]) r
      rcases zipS_ok hz hf.1 hf.2 with ⟨ds, es, rfl, rfl, rfl, hd, he⟩ | ⟨xs, ys, h1, h2, h3⟩
      · obtain ⟨a, us, rfl, hq, _⟩ := (r1.seq).2 _ rfl
        obtain ⟨b, ws, rfl, hq2, _⟩ := (r2.seq).2 _ rfl
        exact ⟨a, b, us, ws, rfl, .inr ⟨by rw [← hK]; exact hq, by rw [← hK]; exact hq2, a1 _ [(.ref a, .val (.tup ds)), (.ref b, .val (.tup es))] H1 cs1 Fs1 F2 (jZipT rfl hd he) g3⟩⟩
      · obtain ⟨a, us, rfl, hq, _⟩ := g3.view (v := v) (d := d) (by simp) h1
        obtain ⟨b, ws, rfl, hq2, _⟩ := g3.view (v := w) (d := e) (by simp) h2
        exact ⟨a, b, us, ws, rfl, .inl ⟨by rw [← hK]; exact hq, by rw [← hK]; exact hq2, a1 _ [(.ref a, .val d), (.ref b, .val e)] H1 cs1 Fs1 F2 (jZip rfl h1 h2 h3) g3⟩⟩
    · exact a1.elim
  · exact a1.elim
theorem iZ {e e2 : Expr} {m : M (List It)} {p pos tpos : Pos} {elts : List Expr} {kk} (hg : Gl X "zip") (hm : X.mg "zip" = none) (ha : PA X [e, e2] (TAs X W m))
    (hs : starEach [e, e2] X.env = (false, eval e X.env) :: starEach [e2] X.env := by rfl) (hpl : (backTo pos (starEach [e2] X.env)).any (·.1) = false := by rfl) :
    PI X (.Tuple elts kk tpos) (.Call (.Name "zip" p) [e, e2] [] pos) (TIt X W (itZ m)) :=
  PI.imp (RZ.pi_zipA hg hm ha hs hpl) fun σ H R q => zip_go (tg := e) (e1 := e) (e2 := e2) q
/-- enumerate -/
def enIt (d : D) (μ : Cells) (i : Nat) : Option D :=
  match view d μ with
  | some xs => (xs[i]?).map fun x => .tup [.int (i : Nat), x]
  | none => none
theorem jEn {K : PySem.W.Frag} {a : Addr} {d : D} {src : Src} {μ0 : Cells} {ds0 : List D} (hK : K = X.K) (hd : view d μ0 = some ds0) (hs : ∀ μ i, src.item μ i = enIt d μ i) : JOk X (Ite K a) [(.ref a, .val d)] src where
  np := rfl
  stop := fun Γ cs H σ ρ μ T Fs Ft i hK' hM g hi _ => by
    rw [hs] at hi
    obtain ⟨ds, e1⟩ := g.viewS (v := .ref a) (by simp) (fun μ0 h => view_any h) hd
    obtain ⟨a', xs, ea, hq, rs⟩ := g.view (v := .ref a) (by simp) e1
    cases ea
    refine ⟨xs, by rw [hK, ← hK']; exact hq, ?_⟩
    unfold enIt at hi
    rw [e1] at hi
    dsimp only at hi
    rw [rs.length]
    simpa using hi
  go := fun Γ cs H σ ρ μ T Fs Ft i x hK' hM g hi => by
    rw [hs] at hi
    obtain ⟨ds, e1⟩ := g.viewS (v := .ref a) (by simp) (fun μ0 h => view_any h) hd
    obtain ⟨a', xs, ea, hq, rs⟩ := g.view (v := .ref a) (by simp) e1
    cases ea
    unfold enIt at hi
    rw [e1] at hi
    dsimp only at hi
    rw [Option.map_eq_some_iff] at hi
    obtain ⟨y, h1, rfl⟩ := hi
    obtain ⟨v, hv, rv⟩ := rs.get h1
    refine ⟨⟨xs, v, by rw [hK, ← hK']; exact hq, hv⟩, fun x H' yy => ?_⟩
    obtain ⟨p, v', rfl, hp, rfl, h3⟩ := yy
    have q1 := h3 xs (by rw [hK, ← hK']; exact hq)
    rw [hv] at q1
    cases q1
    exact ⟨Fs, Ft, g.pair hp (.int _) rv⟩
def enum (xs : List D) : List D := xs.mapIdx fun i x => .tup [.int (i : Nat), x]
def itE (m : M (List It)) : M Src := bnd m fun l s =>
  match satAll s.ρ l with
  | some [d] => match view d s.μ with
    | some xs => if fixed d then some (.ok (.fix (enum xs)), s) else some (.ok (.dyn (xs.length + 1) (enIt d)), s)
    | none => none
  | _ => none
theorem iE {e : Expr} {m : M (List It)} {p pos tpos : Pos} {elts : List Expr} {kk} (hg : Gl X "enumerate") (hm : X.mg "enumerate" = none) (ha : PA X [e] (TAs X W m)) (hs : starEach [e] X.env = [(false, eval e X.env)] := by rfl) :
    PI X (.Tuple elts kk tpos) (.Call (.Name "enumerate" p) [e] [] pos) (TIt X W (itE m)) :=
  PI.imp (pi_enum hg hm ha hs) fun σ H R ⟨Γ, cs, s, T, Fs, Ft, hK, hM, g, a⟩ => TAs.go hK hM g (a.bnd.mono fun l s1 a1 vs H1 cs1 Fs1 Ft1 hl g1 => by
    split at a1
    · rename_i d hs
      split at a1
      · rename_i xs hv
        obtain ⟨F2, g2, r, hf, _⟩ := Good.satAll hl g1 hs
        obtain ⟨v, rfl, r1⟩ := reps1 r
        have g3 : Good Γ cs1 H1 σ s1.ρ s1.μ ((v, .val d) :: T) Fs1 F2 := g2.push0 r1
        obtain ⟨a, us, rfl, hq, _⟩ := g3.view (v := v) (d := d) (by simp) hv
        split at a1
        · rename_i hfx
          exact ⟨a, us, rfl, by rw [← hK]; exact hq, a1 _ [(.ref a, .val d)] H1 cs1 Fs1 F2 (jEn rfl hv fun μ' i => by
            show (enum xs)[i]? = _
            unfold enIt enum
            rw [view_fix hfx hv, List.getElem?_mapIdx]) g3⟩
        · exact ⟨a, us, rfl, by rw [← hK]; exact hq, a1 _ [(.ref a, .val d)] H1 cs1 Fs1 F2 (jEn rfl hv fun μ' i => rfl) g3⟩
      · exact a1.elim
    · exact a1.elim)
end
end DL
namespace DL
open PySem L2
section
variable {X : Cx} {W : WX}
/-! ### what is never come to -/
def nev {α : Type} : M α := fun _ => none
theorem sNev {st : Stmt} : PS X st (TSt X W nev) := ⟨fun _ _ _ _ _ _ ⟨_, _, _, _, _, _, _, _, _, _, a⟩ => a.elim⟩
theorem dNev {e : Expr} : PE X e (TD X W nev) := ⟨fun _ _ _ _ _ _ ⟨_, _, _, _, _, _, _, _, _, a⟩ => a.elim⟩
theorem FnG.never {P : Program} {w : World} {K : PySem.W.Frag} {mg : Str → Option Value} {base : Heap} {k : Nat} {f : Addr} {fd : FuncData} {ps : List Str} : FnG P w K mg base k f fd ps (fun _ _ => none) :=
  ⟨fun _ _ _ _ _ _ _ _ _ _ _ _ _ _ ⟨_, _, _, _, _, _, _, _, a⟩ => a.elim⟩
/-! ### {} -/
theorem dD0 {e : Expr} (h : PE X e tDNewK) : PE X e (TD X W (kst (.dic [] []))) :=
  PE.imp h fun σ H Q ⟨Γ, cs, s, T, Fs, Ft, hK, hM, g, a⟩ p hp => a _ _ cs Fs Ft ((g.alloc0 (o := .dK []) hp).push0 (.dic (kvs := []) upd_same .nil))
/-! ### calls by keywords -/
def reord {α : Type} (pm : List Nat) (l : List α) : List α := pm.filterMap (l[·]?)
theorem reord_range {α : Type} (l : List α) : reord (List.range l.length) l = l := by
  induction l with
  | nil => rfl
  | cons x l ih =>
    unfold reord at ih ⊢
    rw [List.length_cons, List.range_succ_eq_map, List.filterMap_cons, List.filterMap_map]
    have e : ((fun z => (x :: l)[z]?) ∘ Nat.succ) = fun z => l[z]? := by funext z; simp
    rw [e, ih]
    rfl
theorem reord_perm {α : Type} {pm : List Nat} {l : List α} (h : pm.Perm (List.range l.length)) : (reord pm l).Perm l := by
  have := h.filterMap (l[·]?)
  rw [show (List.range l.length).filterMap (l[·]?) = l from reord_range l] at this
  exact this
theorem reord_zip {α β : Type} {n : Nat} : ∀ {pm : List Nat} {a : List α} {b : List β}, (∀ i ∈ pm, i < n) → a.length = n → b.length = n → reord pm (List.zip a b) = List.zip (reord pm a) (reord pm b)
  | [], _, _, _, _, _ => rfl
  | i :: pm, a, b, h, ha, hb => by
    have hi := h i (by simp)
    have ih := reord_zip (pm := pm) (a := a) (b := b) (fun j hj => h j (by simp [hj])) ha hb
    unfold reord at ih ⊢
    have e1 : a[i]? = some (a[i]'(by omega)) := List.getElem?_eq_getElem _
    have e2 : b[i]? = some (b[i]'(by omega)) := List.getElem?_eq_getElem _
    have e3 : (List.zip a b)[i]? = some (a[i]'(by omega), b[i]'(by omega)) := by
      rw [List.getElem?_zip_eq_some]; exact ⟨e1, e2⟩
    rw [List.filterMap_cons, List.filterMap_cons, List.filterMap_cons, e1, e2, e3]
    simp only [List.zip_cons_cons]
    rw [ih]
theorem reord_map {α β : Type} (f : α → β) (pm : List Nat) (l : List α) : reord pm (l.map f) = (reord pm l).map f := by
  unfold reord
  rw [List.map_filterMap]
  congr 1
  funext i
  rw [List.getElem?_map]
theorem Vals.reord {vs : List V} {us : List Value} (h : Vals vs us) : ∀ pm : List Nat, Vals (reord pm vs) (reord pm us)
  | [] => .nil
  | i :: pm => by
    have hl := h.length
    have ih := Vals.reord h pm
    unfold DL.reord at ih ⊢
    cases e : vs[i]? with
    | none =>
      have e2 : us[i]? = none := by rw [List.getElem?_eq_none_iff] at e ⊢; omega
      rw [List.filterMap_cons_none e, List.filterMap_cons_none e2]; exact ih
    | some v =>
      obtain ⟨u, e2, r⟩ := h.get e
      rw [List.filterMap_cons_some e, List.filterMap_cons_some e2]; exact .cons r ih
def appA (m n : M (List It)) : M (List It) := bnd m fun l => bnd n fun k => ret (l ++ k)
def TKs (X : Cx) (W : WX) (m : M (List It)) : TA := TAs X W m
theorem PK.imp {X : Cx} {e : List Keyword} {t u : TA} (h : PK X e t) (k : ∀ σ H Q, u σ H Q → t σ H Q) : PK X e u := ⟨fun pos pins s σ H Q I q => h.run pos pins s σ H Q I (k σ H Q q)⟩
theorem k0 : PK X [] (TAs X W args0) := PK.imp pk_nil fun σ H Q ⟨Γ, cs, s, T, Fs, Ft, hK, hM, g, a⟩ => a [] H cs Fs Ft rfl g
theorem kC {nm : Option Str} {e : Expr} {kpos : Pos} {kws : List Keyword} {m : M It} {n : M (List It)} (h : PE X e (TD X W m)) (k : PK X kws (TAs X W n)) : PK X (⟨nm, e, kpos⟩ :: kws) (TAs X W (argsC m n)) :=
  PK.imp (pk_cons h k) fun σ H Q ⟨Γ, cs, s, T, Fs, Ft, hK, hM, g, a⟩ => TD.go hK hM g (a.bnd.mono fun i s1 a1 v1 H1 cs1 Fs1 Ft1 g1 =>
    TAs.go hK hM g1 (a1.bnd.push.mono fun l s2 a2 vs H2 cs2 Fs2 Ft2 hl g2 => by
      obtain ⟨Ft3, g3⟩ := g2.perm (U := (v1, i) :: (List.zip vs l ++ T)) (List.perm_middle)
      exact a2 (v1 :: vs) H2 cs2 Fs2 Ft3 (by simp [hl]) g3))
/-- how a call with keywords binds -/
def KB (K : PySem.W.Frag) (fd : FuncData) (ps ks : List Str) (n : Nat) (pm : List Nat) : Prop :=
  ∀ (s : Shared) (us ws : List Value), K.In s.heap → us.length = n → ws.length = ks.length → BindsTo s fd ⟨us, ks.zip ws⟩ (ps.zip (reord pm (us ++ ws)))
/-- a call, the arguments in another order -/
def callK (F : Fn) (pm : List Nat) (m n : M (List It)) : M It := bnd (appA m n) fun l s =>
  match vals? l with
  | some ds => match F (reord pm ds) s.μ with
    | some (.ok d, μ) => some (.ok (.val d), ⟨s.ρ, μ⟩)
    | some (.err c v, μ) => some (.err c v, ⟨s.ρ, μ⟩)
    | none => none
  | none => none
theorem callK_go {pn n : Nat} {F : Fn} {pm : List Nat} {l : List It} {Γ : Gm} {σ : St} {H : Hp} {cs Fs Ft : List Addr} {s : Sg} {T : Tmp} {Q : VK} {vs : List V} (hK : Γ.K = X.K) (hM : Γ.mg = X.mg) (hpm : pm.Perm (List.range n)) (hl : vs.length = l.length) (hln : l.length = n) (hpn : pn = n)
    (g : Good Γ cs H σ s.ρ s.μ (List.zip vs l ++ T) Fs Ft)
    (a : After W Γ σ T (fun it s' => ∀ v H' cs' Fs' Ft', Good Γ cs' H' σ s'.ρ s'.μ ((v, it) :: T) Fs' Ft' → Q v H') (match vals? l with
      | some ds => match F (reord pm ds) s.μ with
        | some (.ok d, μ) => some (.ok (It.val d), ⟨s.ρ, μ⟩)
        | some (.err c v, μ) => some (.err c v, ⟨s.ρ, μ⟩)
        | none => none
      | none => none)) : spD X.K X.mg pn F (reord pm vs) H Q (WE W σ) := by
  subst hpn
  cases ev : vals? l with
  | none => rw [ev] at a; exact a.elim
  | some ds =>
    have e' := vals_eq ev
    subst e'
    rw [ev] at a
    have hl' : vs.length = ds.length := by simpa using hl
    have hdn : ds.length = pn := by simpa using hln
    have p1 : (vals (reord pm vs) (reord pm ds)).Perm (vals vs ds) := by
      show (List.zip (reord pm vs) ((reord pm ds).map It.val)).Perm _
      rw [← reord_map, ← reord_zip (n := pn) (fun i hi => by simpa using hpm.subset hi) (by omega) (by simpa using hdn)]
      exact reord_perm (by
        show pm.Perm (List.range (List.zip vs (ds.map It.val)).length)
        rw [List.length_zip, List.length_map, hl', Nat.min_self, hdn]; exact hpm)
    obtain ⟨F1, g1⟩ := g.perm (U := vals (reord pm vs) (reord pm ds) ++ T) (p1.symm.append_right T)
    have hlr : (reord pm vs).length = (reord pm ds).length := by
      rw [(reord_perm (l := vs) (by rw [hl', hdn]; exact hpm)).length_eq, (reord_perm (l := ds) (by rw [hdn]; exact hpm)).length_eq, hl']
    obtain ⟨f, f', e2, r, t⟩ := Temps.to_reps hlr g1.tm
    subst e2
    have ge := g1.enter r
    rw [hK, hM] at ge
    refine ⟨Fs ++ f' ++ Γ.G, cs, reord pm ds, s.μ, f, ?_, hlr, ge, ?_⟩
    · rw [(reord_perm (l := vs) (by rw [hl', hdn]; exact hpm)).length_eq, hl', hdn]
    dsimp only at a
    cases eF : F (reord pm ds) s.μ with
    | none => rw [eF] at a; exact a.elim
    | some p =>
      obtain ⟨r2, μ2⟩ := p
      rw [eF] at a
      cases r2 with
      | ok d =>
        intro v H2 cs2 f2 g2
        rw [← hK, ← hM] at g2
        exact a v H2 cs2 Fs (f2 ++ f') (g1.leave hlr t g2)
      | err c dv =>
        intro C d v H2 cs2 f2 g2 hf hm hd
        rw [← hK, ← hM] at g2
        exact a C d v H2 cs2 Fs (f2 ++ f') (g1.leave hlr t g2) hf (by rw [hM]; exact hm) hd
theorem callK_run {k : Nat} {f : Addr} {fd : FuncData} {ps ks : List Str} {n : Nat} {pm : List Nat} {F : Fn} {pins : List (Addr × Obj)} {σ : St} {H : Hp} {s : Shared} {Q : VK} {us ws : List Value} {vs zs : List V}
    (G : FnG X.prog X.w X.K X.mg X.base k f fd ps F) (hgd : X.A.guards = some []) (hr : Room k X.A) (hb : KB X.K fd ps ks n pm) (hx : PassesAt (L2.CX X.prog X.w) X σ (WE W σ)) (I : Inv X pins σ H s) (r : Vals vs us) (r2 : Vals zs ws) (hn : us.length = n) (hk : ws.length = ks.length)
    (h : spD X.K X.mg ps.length F (reord pm (vs ++ zs)) H Q (WE W σ)) : wpAny (model X.prog X.w) X.A (PySem.call (.ref f) us (ks.zip ws)) (EP X pins σ Q) X.xe s := by
  refine wpAny_call (codeAny_mono (G.run X.A X.stack s H ⟨us, ks.zip ws⟩ (reord pm (us ++ ws)) (reord pm (vs ++ zs)) Q (WE W σ) hgd hr I.env0 (hb s us ws I.kIn hn hk) (Vals.reord (r.append r2) pm) h) fun res s2 q => ?_)
  match res, q with
  | .error e, q => exact hx pins H s e s2 I q
  | .ok (.ret _), q => exact I.after q
theorem After.also {α : Type} {Γ : Gm} {σ : St} {T : Tmp} {k : α → Sg → Prop} {φ : α → Prop} {m : M α} {s : Sg} (h : After W Γ σ T k (m s)) (hn : ∀ a s s', m s = some (.ok a, s') → φ a) : After W Γ σ T (fun a s' => φ a ∧ k a s') (m s) := by
  cases e : m s with
  | none => rw [e] at h; exact h
  | some q =>
    obtain ⟨r, s'⟩ := q
    rw [e] at h
    cases r with
    | ok a => exact ⟨hn _ _ _ e, h⟩
    | err c v => exact h
theorem appA_go {m n : M (List It)} {n1 n2 : Nat} {Γ : Gm} {σ : St} {H : Hp} {cs Fs Ft : List Addr} {s : Sg} {T : Tmp} {Q : List V → List V → Hp → Prop} (hK : Γ.K = X.K) (hM : Γ.mg = X.mg) (g : Good Γ cs H σ s.ρ s.μ T Fs Ft)
    (h1 : ∀ l s s', m s = some (.ok l, s') → l.length = n1) (h2 : ∀ l s s', n s = some (.ok l, s') → l.length = n2)
    (a : After W Γ σ T (fun its s' => ∀ vs zs H' cs' Fs' Ft', vs.length = n1 → zs.length = n2 → its.length = n1 + n2 → Good Γ cs' H' σ s'.ρ s'.μ (List.zip (vs ++ zs) its ++ T) Fs' Ft' → Q vs zs H') (appA m n s)) :
    TAs X W m σ H fun vs H1 => TAs X W n σ H1 fun zs H2 => Q vs zs H2 := by
  refine TAs.go hK hM g ((a.bnd.also h1).mono fun l s1 ⟨hl1, a1⟩ vs H1 cs1 Fs1 Ft1 hl g1 => TAs.go hK hM g1 ((After.pushU (U := List.zip vs l) (a1.bnd.also h2)).mono fun k s2 ⟨hl2, a2⟩ zs H2 cs2 Fs2 Ft2 hk g2 => ?_))
  obtain ⟨F3, g3⟩ := g2.perm (U := List.zip vs l ++ (List.zip zs k ++ T)) (by
    rw [← List.append_assoc, ← List.append_assoc]
    exact (List.perm_append_comm).append_right T)
  refine a2 vs zs H2 cs2 Fs2 F3 (hl.trans hl1) (hk.trans hl2) (by simp [hl1, hl2]) ?_
  rw [List.zip_append hl, List.append_assoc]
  exact g3
section
variable {k n : Nat} {f : Addr} {fd : FuncData} {ps ks : List Str} {pm : List Nat} {x : Str} {p pos : Pos} {e : Expr} {es : List Expr} {kws : List Keyword} {F : Fn} {ma mk : M (List It)}
theorem callK_spec (hpm : pm.Perm (List.range ps.length)) (hkl : n + ks.length = ps.length) (hn1 : ∀ l s s', ma s = some (.ok l, s') → l.length = n) (hn2 : ∀ l s s', mk s = some (.ok l, s') → l.length = ks.length) {σ : St} {H : Hp} {Q : VK} (h : TD X W (callK F pm ma mk) σ H Q) :
    TAs X W ma σ H fun vs H1 => TAs X W mk σ H1 fun zs H2 => vs.length = n ∧ zs.length = ks.length ∧ spD X.K X.mg ps.length F (reord pm (vs ++ zs)) H2 Q (WE W σ) := by
  obtain ⟨Γ, cs, sg, T, Fs, Ft, hK, hM, g, a⟩ := h
  refine appA_go hK hM g hn1 hn2 (a.bnd.mono fun its s1 a1 vs zs H' cs' Fs' Ft' l1 l2 l3 g' => ⟨l1, l2, ?_⟩)
  exact callK_go hK hM hpm (by rw [List.length_append, l1, l2, l3]) (l3.trans hkl) rfl g' a1
theorem dFK0 (Fo : FnG X.prog X.w X.K X.mg X.base k f fd ps F) (hgd : X.A.guards = some []) (hr : Room k X.A) (hg : Gl X x) (hm : X.mg x = some (.ref f)) (hk : PySem.W.keepIn X.K (.ref f) = true) (hb : KB X.K fd ps ks 0 pm) (hx : ∀ σ, PassesAt (L2.CX X.prog X.w) X σ (WE W σ))
    (hpm : pm.Perm (List.range ps.length)) (hkl : 0 + ks.length = ps.length)
    (hkw : PK X kws (TAs X W mk)) (hn : ∀ l s s', mk s = some (.ok l, s') → l.length = ks.length) (hall : (backToKw pos (keywordEach kws X.env)).all (·.1.isSome) = true := by rfl) (hks : (backToKw pos (keywordEach kws X.env)).filterMap (·.1) = ks := by rfl) (hdb : (x == ("__debug__" : Str)) = false := by decide)
    (hpl : ((backTo pos (starEach [] X.env)).any (·.1) || (backToKw pos (keywordEach kws X.env)).any (·.1.isNone)) = false := by rfl) :
    PE X (.Call (.Name x p) [] kws pos) (TD X W (callK F pm args0 mk)) := by
  refine ⟨fun pins s σ H Q I h => ?_⟩
  refine wpAny_Call_Name_kw (ld_glob I hg hm ?_ hdb)
  refine PySem.W.callWith_KW0 (h₀ := X.base) I.ok.mod.kin hk hall ?_ hpl
  obtain ⟨Γ, cs, sg, T, Fs, Ft, hK, hM, g, a⟩ := callK_spec hpm hkl args0_len hn h
  have q := a [] H cs Fs Ft rfl g
  refine thn (hkw.run pos pins s σ H _ I q) fun ws s2 ⟨zs, H2, I2, rz, _, l2, q2⟩ => ⟨I2.kIn, ?_⟩
  rw [hks]
  exact callK_run (us := []) (vs := []) Fo hgd hr hb (hx σ) I2 .nil rz rfl (by rw [← rz.length]; exact l2) q2
theorem dFK (Fo : FnG X.prog X.w X.K X.mg X.base k f fd ps F) (hgd : X.A.guards = some []) (hr : Room k X.A) (hg : Gl X x) (hm : X.mg x = some (.ref f)) (hk : PySem.W.keepIn X.K (.ref f) = true) (hb : KB X.K fd ps ks n pm) (hx : ∀ σ, PassesAt (L2.CX X.prog X.w) X σ (WE W σ))
    (hpm : pm.Perm (List.range ps.length)) (hkl : n + ks.length = ps.length)
    (ha : PA X (e :: es) (TAs X W ma)) (hna : ∀ l s s', ma s = some (.ok l, s') → l.length = n)
    (hkw : PK X kws (TAs X W mk)) (hn : ∀ l s s', mk s = some (.ok l, s') → l.length = ks.length) (hall : (backToKw pos (keywordEach kws X.env)).all (·.1.isSome) = true := by rfl) (hks : (backToKw pos (keywordEach kws X.env)).filterMap (·.1) = ks := by rfl) (hdb : (x == ("__debug__" : Str)) = false := by decide) (he : starEach (e :: es) X.env = (false, eval e X.env) :: starEach es X.env := by rfl)
    (hpl : ((backTo pos (starEach (e :: es) X.env)).any (·.1) || (backToKw pos (keywordEach kws X.env)).any (·.1.isNone)) = false := by rfl) :
    PE X (.Call (.Name x p) (e :: es) kws pos) (TD X W (callK F pm ma mk)) := by
  refine ⟨fun pins s σ H Q I h => ?_⟩
  refine wpAny_Call_Name_kw (ld_glob I hg hm ?_ hdb)
  have q := callK_spec hpm hkl hna hn h
  refine PySem.W.callWith_KW (h₀ := X.base) I.ok.mod.kin hk hall (thn (ha.run pos pins s σ H _ I q) fun us s1 ⟨vs, H1, I1, r, q1⟩ => ?_) hpl he
  refine thn (hkw.run pos pins s1 σ H1 _ I1 q1) fun ws s2 ⟨zs, H2, I2, rz, l1, l2, q2⟩ => ⟨I2.kIn, ?_⟩
  rw [hks]
  exact callK_run (us := us) Fo hgd hr hb (hx σ) I2 r rz (by rw [← r.length]; exact l1) (by rw [← rz.length]; exact l2) q2
end
end
/-! ### the end of a law -/
open PySem.Spec
open PyProof.Rows hiding St
section
variable {P : Program} {w : World} {K : PySem.W.Frag}
theorem law_good {mg : Str → Option Value} {H : Hp} {a : Addr} {ns : List Int} {F : Fn} {μ : Cells} (hO : Only H) (hS : SqL K H a (ns.map V.int)) (h : F [.frz (ns.map .int)] [] = some (.ok (.bool true), μ)) : spD K mg 1 F [.ref a] H (fun v _ => v = .bl true) fun _ _ _ => False := by
  refine ⟨[], [], [.frz (ns.map .int)], [], [], rfl, rfl, ⟨.nil, ?_, .nil, (fun a => by simp), (fun b o e _ _ => e), (fun b h => (h.elim (fun z => nomatch z) (fun z => nomatch z))), (fun k b e => e), (fun b h => nomatch h), (fun b h => nomatch h)⟩, ?_⟩
  · refine Temps.val (f := []) (.frz ?_ (Reps.of_ints ns)) .nil
    rcases hS with (z | z) | z
    · rcases hO a with q | ⟨o, xs, q⟩
      · rw [z] at q; cases q
      · rw [z] at q; cases q
    · exact .inr z
    · exact .inl z
  · rw [h]
    intro v H' cs Ft g
    obtain ⟨f, r⟩ := Good.look (it := .val (.bool true)) g rfl
    cases r
    rfl
/-- the law's def, called at the end of the module's run -/
theorem law_runs {mg mb : Str → Option Value} {k : Nat} {fa a : Addr} {fd : FuncData} {x : Str} {F : Fn} {μ : Cells} {s1 : Shared} {vs : List Value} {ns : List Int} (inK : K.In s1.heap) (nG : s1.heap.Ns mainGlobals mg) (nB : s1.heap.Ns builtinsNs mb) (bB : ∀ y : Str, y ≠ "__name__" → mb y = bootBuiltins y) (lim : s1.heap.NoLimit) (gens : s1.gens = #[])
    (oa : s1.heap.get? a = some { cls := .type "list", data := .seq vs.toArray }) (hin : IntsAre vs ns) (most : ns.length ≤ sizeLine) (room : Room k callerA) (G : ∀ base : Heap, K.In base → base.Ns mainGlobals mg → FnG P w K mg base k fa fd [x] F)
    (bind : ∀ (s : Shared) (u : Value), BindsTo s fd ⟨[u], []⟩ [(x, u)]) (hF : F [.frz (ns.map .int)] [] = some (.ok (.bool true), μ)) :
    codeAny (model P w) callerA (.call (.ref fa) ⟨[.ref a], []⟩) (fun r s2 => r = .ok (.ret (.bool true)) ∧ OldK s1.heap s2.heap ∧ s2.os = s1.os ∧ AllBare s2.gens) s1 := by
  have rv := vals_ints hin
  have len := hin.length
  suffices main : ∀ H : Hp, Only H → SqL K H a (ns.map V.int) → HOk P w H s1.heap → (∀ b, H b ≠ none → b = a ∧ K.lookup a = none) → codeAny (model P w) callerA (.call (.ref fa) ⟨[.ref a], []⟩) (fun r s2 => r = .ok (.ret (.bool true)) ∧ OldK s1.heap s2.heap ∧ s2.os = s1.os ∧ AllBare s2.gens) s1 by
    cases q : K.lookup a with
    | some o =>
      have e := inK a o q
      rw [oa] at e
      cases e
      have hs : SqL K (fun _ => none) a (ns.map V.int) := .inr ⟨_, vs.toArray, _, q, rfl, rfl, rfl, by rw [List.size_toArray, len]; exact most, by simpa using rv⟩
      exact main (fun _ => none) (fun _ => .inl rfl) hs (fun b u z => nomatch (show (none : Option HO) = some u from z)) fun b z => absurd rfl z
    | none =>
      let fz : HO := .frz { cls := .type "list", data := .seq vs.toArray } (.lst (ns.map V.int))
      have at' : ∀ b u, (if b = a then some fz else none) = some u → b = a ∧ u = fz := fun b u z => by
        split at z
        · rename_i h; cases z; exact ⟨h, rfl⟩
        · cases z
      refine main (fun b => if b = a then some fz else none) (fun b => ?_) (.inl (.inr ⟨_, if_pos rfl⟩)) (fun b u z => ?_) fun b z => ?_
      · by_cases hb : b = a
        · exact .inr ⟨_, _, if_pos hb⟩
        · exact .inl (if_neg hb)
      · obtain ⟨rfl, rfl⟩ := at' b u z
        exact ⟨oa, by rw [List.length_map]; exact most, vs, _, rv, oa⟩
      · by_cases hb : b = a
        · exact ⟨hb, q⟩
        · exact absurd (if_neg hb) z
  intro H only sq hok tr
  have get : ∀ {b : Addr} {o : Obj}, s1.heap.get? b = some o → H b = none → (hidT s1.heap H).get? b = some o := fun e n => hidT_get e n
  have dic : ∀ {b : Addr} {o : Obj} {es : Array DictEntry} {ep : Nat}, s1.heap.get? b = some o → o.data = .dict es ep → H b = none := fun {b o es ep} e d => by
    by_cases z : H b = none
    · exact z
    · obtain ⟨rfl, _⟩ := tr b z
      rw [oa] at e; cases e
      exact nomatch (show Data.seq vs.toArray _ = Data.dict es ep from d)
  have ns' : ∀ {b : Addr} {m : Str → Option Value}, s1.heap.Ns b m → (hidT s1.heap H).Ns b m := fun {b m} ⟨o, es, ep, e, d, r⟩ => ⟨o, es, ep, get e (dic e d), d, r⟩
  have inB : K.In (hidT s1.heap H) := fun b o e => get (inK b o e) (by
    by_cases z : H b = none
    · exact z
    · obtain ⟨rfl, h2⟩ := tr b z
      rw [h2] at e; cases e)
  have nl : (hidT s1.heap H).NoLimit := by
    obtain ⟨mc, h1, h2⟩ := lim
    exact ⟨mc, ns' h1, h2⟩
  have env : Env0 P w K mg (hidT s1.heap H) callerA [] s1 H := ⟨rfl, ⟨inB, ns' nG, ⟨mb, ns' nB, bB⟩, nl⟩, fun b o e => of_hidT e, Nat.le_of_eq (hidT_size _ _), trivial, (fun b hb => nomatch (show b ∈ ([] : List Addr) from hb)), hok, .of_eq gens⟩
  refine codeAny_mono ((G _ inB (ns' nG)).run callerA [] s1 H ⟨[.ref a], []⟩ [.ref a] [.ref a] _ _ rfl room env (bind s1 (.ref a)) (.cons rfl .nil) (law_good only sq hF)) fun r s2 h => ?_
  match r, h with
  | .error e, h =>
    obtain ⟨_, _, _, _, _, _, _, _, _, _, _, _, z⟩ := (show L2.CX P w [] H s1 (fun _ _ _ => False) e s2 from h)
    exact z.elim
  | .ok (.ret u), ⟨v, H', os, bare, un, hok', r', q⟩ =>
    cases (show v = .bl true from q)
    cases (show u = Value.bool true from r')
    refine ⟨rfl, OldK.of_keep fun b o e => ?_, os, bare⟩
    cases q : H b with
    | none => exact un.keep b o e q (fun z => nomatch (show b ∈ ([] : List Addr) from z)) (by simp)
    | some u =>
      rcases only b with z | ⟨ob, xs, z⟩
      · rw [q] at z; cases z
      · obtain ⟨e1, _⟩ := hok b _ z
        obtain ⟨e2, _⟩ := hok' b _ (un.frzs b ob _ z)
        rw [e] at e1; cases e1
        exact e2
/-- THE END: from the mirror of the law to the goal of the head -/
theorem walkD {l : PySem.W.OpenLaw} {n k : Nat} {q : Program} {loose : List Str} {XP : (Str → Option Value) → Heap → Prop} {YP : World → Heap → Prop} {d : DefRec} {Kf : Params → PySem.W.Frag} {x : Str} {F : Fn}
    (hn : l.most = some n) (hn2 : n ≤ sizeLine) (hdf : d.params.defaults = []) (hr : Room k callerA) (hY : ∀ (w : World) (h : Heap), YP w h → (Kf w.params).In h)
    (G : ∀ (w : World) (mg : Str → Option Value) (fa : Addr) (h : Heap), (Kf w.params).In h → h.Ns mainGlobals mg → mg d.name = some (.ref fa) →
      ∃ fd : FuncData, (∀ (s : Shared) (u : Value), BindsTo s fd ⟨[u], []⟩ [(x, u)]) ∧ ∀ base : Heap, (Kf w.params).In base → base.Ns mainGlobals mg → FnG l.prog w (Kf w.params) mg base k fa fd [x] F)
    (hF : ∀ ns : List Int, ns.length ≤ n → (∀ z ∈ ns, Builtin.Int.intBits z ≤ 1048576) → ∃ μ, F [.frz (ns.map .int)] [] = some (.ok (.bool true), μ)) :
    PySem.W.WalkO q loose XP YP l.row.toRowW d [] (fun f vs => PySem.call f vs) := by
  refine Att.attach_callB hn hdf fun w s₀ s₁ mg mb fa o pm cd doc a vs ns Gr Y ho hd hcd hmg hobj hints hlen hbits hg => ?_
  have inK := hY w _ Y
  obtain ⟨fd, hb, hG⟩ := G w mg fa _ inK Gr.T.g hmg
  obtain ⟨μ, hμ⟩ := hF ns hlen hbits
  exact law_runs inK Gr.T.g Gr.T.b Gr.T.builtins Gr.T.nolimit hg hobj hints (Nat.le_trans hlen hn2) hr hG hb hμ
end
end DL
namespace DL
open PySem L2
section
variable {X : Cx} {W : WX}
/-! ### sorted, any data -/
open PySem.W (alike AllAlike Sortable dataLe)
def alikeB (ds : List D) : Bool := ds.all fun d => ds.all fun e => alike d.py e.py
def tup1 : D → Bool
  | .tup (_ :: _) => true
  | _ => false
def noTup : D → Bool
  | .tup _ => false
  | .none => false
  | .bool _ => true
  | .int _ => true
  | .str _ => true
  | .lst _ _ => true
  | .frz _ => true
  | _ => false
def leP (d e : D) : Bool := dataLe false D.py d e
def sortP (ds : List D) : List D := ds.mergeSort leP
def sortDs (ds : List D) : Option (List D) := if alikeB ds && (ds.all tup1 || ds.all noTup) && D.lows 60 ds then some (sortP ds) else none
def sorD : List D → Option D
  | [.lst _ ds] => match intsD ds with
    | some ns => some (.lst true ((sortI ns).map .int))
    | none => (sortDs ds).map (.lst true)
  | [.frz ds] => match intsD ds with
    | some ns => some (.lst true ((sortI ns).map .int))
    | none => (sortDs ds).map (.lst true)
  | _ => none
def rSorD (X : Cx) : List V → Hp → VK → Prop := fun xs H Q => rSortedI X.K xs H Q ∨ ∃ (mg : Str → Option Value) (cs B : List Addr) (a : Addr) (ys : List V) (ds : List D), xs = [.ref a] ∧ SqL X.K H a ys ∧ Reps X.K mg cs B H ys ds [] ∧ D.lows 60 ds = true ∧ alikeB ds = true ∧ (ds.all tup1 || ds.all noTup) = true ∧
  ∀ zs p, Reps X.K mg cs B H zs (sortP ds) [] → H p = none → Q (.ref p) (upd H p (.lst zs))
theorem Reps.pairs {K : PySem.W.Frag} {mg : Str → Option Value} {cs B : List Addr} {H : Hp} {vs : List V} {ds : List D} (r : Reps K mg cs B H vs ds []) : ∀ p ∈ List.zip vs ds, Rep K mg cs B H p.1 p.2 [] := by
  induction vs generalizing ds with
  | nil => intro p hp; simp at hp
  | cons v vs ih =>
    generalize hf : ([] : List Addr) = f at r
    cases r with
    | cons r1 r2 =>
      obtain ⟨e1, e2⟩ := List.append_eq_nil_iff.mp hf.symm
      subst e1 e2
      intro p hp
      rcases List.mem_cons.mp hp with rfl | hp
      · exact r1
      · exact ih r2 p hp
theorem Reps.ofPairs {K : PySem.W.Frag} {mg : Str → Option Value} {cs B : List Addr} {H : Hp} : ∀ {ps : List (V × D)}, (∀ p ∈ ps, Rep K mg cs B H p.1 p.2 []) → Reps K mg cs B H (ps.map (·.1)) (ps.map (·.2)) []
  | [], _ => .nil
  | p :: ps, h => .cons (f := []) (g := []) (h p (by simp)) (Reps.ofPairs fun q hq => h q (by simp [hq]))
theorem sortP_map (ps : List (V × D)) : (ps.mergeSort (dataLe false fun p => p.2.py)).map (·.2) = sortP (ps.map (·.2)) :=
  List.map_mergeSort fun a _ b _ => rfl
theorem each_zip {vs : List V} {us : List Value} (r : Vals vs us) : ∀ {ds : List D}, vs.length = ds.length → PySem.W.EachIs (fun u (p : V × D) => RelV p.1 u) us (List.zip vs ds) := by
  induction r with
  | nil => intro ds h; cases ds with
    | nil => exact .nil
    | cons d ds => simp at h
  | cons r _ ih => intro ds h; cases ds with
    | nil => simp at h
    | cons d ds => exact .cons r (ih (by simpa using h))
theorem each_vals {out : List Value} {ps : List (V × D)} (h : PySem.W.EachIs (fun u (p : V × D) => RelV p.1 u) out ps) : Vals (ps.map (·.1)) out := by
  induction h with
  | nil => exact .nil
  | cons r _ ih => exact .cons r ih
theorem sortable_of {ds : List D} (h : (ds.all tup1 || ds.all noTup) = true) : Sortable (ds.map D.py) := by
  rw [Bool.or_eq_true] at h
  rcases h with h | h
  · refine .inl fun d hd => ?_
    obtain ⟨e, he, rfl⟩ := List.mem_map.mp hd
    have := List.all_eq_true.mp h e he
    unfold tup1 at this
    split at this
    · exact ⟨_, _, by simp only [D.py, D.pys]; rfl⟩
    · cases this
  · refine .inr fun d hd => ?_
    obtain ⟨e, he, rfl⟩ := List.mem_map.mp hd
    have := List.all_eq_true.mp h e he
    cases e <;> simp_all [noTup, D.py]
theorem cr_sor (hu : X.A.units + 70 < cLine) : CallR X (.builtin "sorted") (rSorD X) := by
  refine CallR.or cr_sortedI ?_
  intro pins s σ H xs us Q I r h
  obtain ⟨mg, cs, B, a, ys, ds, rfl, hq, rs, hlow, hal, hso, q⟩ := h
  obtain ⟨its, rv, pl, hz⟩ := I.list hq
  rw [Vals.ref1 r]
  have hlen := rs.length
  have hl2 := rv.length
  have hm2 : (List.zip ys ds).map (·.2) = ds := List.map_snd_zip (by omega)
  have hmp : (List.zip ys ds).map (fun p => p.2.py) = ds.map D.py := by
    have e : (List.zip ys ds).map (fun p => p.2.py) = ((List.zip ys ds).map (·.2)).map D.py := by rw [List.map_map]; rfl
    rw [e, hm2]
  have e1 := each_zip rv hlen
  have pr := rs.pairs
  have er : PySem.W.EachIs (fun v (b : V × D) => ∃ as, Reads s.heap v b.2.py as) its (List.zip ys ds) := (PySem.W.each_mem e1).mono fun u p ⟨hu, hp⟩ =>
    Dp.reads I _ _ _ ((pr p hp).dp 60 ((D.lows_iff 60 ds).mp hlow _ (List.of_mem_zip hp).2)) hu
  have al : AllAlike ((List.zip ys ds).map fun p => p.2.py) := by
    rw [hmp]
    intro d hd e he
    obtain ⟨d1, hd1, rfl⟩ := List.mem_map.mp hd
    obtain ⟨e1, he1, rfl⟩ := List.mem_map.mp he
    exact List.all_eq_true.mp (List.all_eq_true.mp hal d1 hd1) e1 he1
  have so : Sortable ((List.zip ys ds).map fun p => p.2.py) := by rw [hmp]; exact sortable_of hso
  refine PySem.W.sorted_data (enc := fun p : V × D => p.2.py) (bs := List.zip ys ds) pl.isList e1 er al so (by rw [List.length_zip]; omega) (fun b hb => ?_) fun out h1 h2 => ?_
  · have := (D.low_depth 60 b.2 ((D.lows_iff 60 ds).mp hlow _ (List.of_mem_zip hb).2)).1
    omega
  · have hv := each_vals h2
    obtain ⟨ep, he'⟩ := PyProof.Rows.sortedAll_at s.heap its out.toArray
    have rz : Reps X.K mg cs B H (((List.zip ys ds).mergeSort (dataLe false fun p => p.2.py)).map (·.1)) (sortP ds) [] := by
      have z := Reps.ofPairs (K := X.K) (mg := mg) (cs := cs) (B := B) (H := H) (ps := (List.zip ys ds).mergeSort (dataLe false fun p => p.2.py)) fun p hp => pr p ((List.mergeSort_perm _ _).mem_iff.mp hp)
      rw [sortP_map, hm2] at z
      exact z
    have hlz : (((List.zip ys ds).mergeSort (dataLe false fun p => p.2.py)).map (·.1)).length ≤ sizeLine := by
      rw [List.length_map, (List.mergeSort_perm _ _).length_eq, List.length_zip]; omega
    exact ⟨.ref _, upd H (s.heap.objs.size + 1) (.lst _), I.laid (t' := s.toks) (fun _ _ => PyProof.Rows.sortedAll_old) (Nat.le_succ _) ⟨hlz, out, ep, hv, he'⟩, rfl, q _ _ rz (I.hok.fresh (Nat.le_succ _))⟩
theorem cc_sor : ClC X (rSorD X) sorD := by
  intro cs B H xs ds z Q r hz k
  have two : ∀ {o : Bool} {v : V} {es : List D}, RepE X.K X.mg cs B H v (.lst o es) → (match intsD es with
    | some ns => some (D.lst true ((sortI ns).map .int))
    | none => (sortDs es).map (.lst true)) = some z → rSorD X [v] H Q := fun {o v es} r1 hz => by
    obtain ⟨a, ys, rfl, h, rs⟩ := r1.lstT
    split at hz
    · rename_i ns hn
      cases hz
      rw [intsD_eq hn] at rs
      rw [rs.ints] at h
      refine .inl ⟨a, ns, rfl, .of h, fun ms p hp ho hn => ?_⟩
      rw [sortI_of hp ho]
      exact k _ _ (.lst hn (Reps.of_ints _))
    · rw [Option.map_eq_some_iff] at hz
      obtain ⟨l, h1, rfl⟩ := hz
      unfold sortDs at h1
      split at h1
      · rename_i hc
        cases h1
        simp only [Bool.and_eq_true] at hc
        exact .inr ⟨_, cs, B, a, ys, es, rfl, .of h, rs, hc.2, hc.1.1, hc.1.2, fun zs p rz hn => k _ _ (.lst hn rz)⟩
      · cases h1
  unfold sorD at hz
  split at hz
  · obtain ⟨v, rfl, r1⟩ := repEs1 r
    exact two r1 hz
  · obtain ⟨v, rfl, r1⟩ := repEs1 r
    obtain ⟨a, ys, rfl, h, rs, _⟩ := (r1.un (by nofun)).frzL
    split at hz
    · rename_i ns hn
      cases hz
      rw [intsD_eq hn] at rs
      rw [rs.ints] at h
      refine .inl ⟨a, ns, rfl, h, fun ms p hp ho hn => ?_⟩
      rw [sortI_of hp ho]
      exact k _ _ (.lst hn (Reps.of_ints _))
    · rw [Option.map_eq_some_iff] at hz
      obtain ⟨l, h1, rfl⟩ := hz
      unfold sortDs at h1
      split at h1
      · rename_i hc
        cases h1
        simp only [Bool.and_eq_true] at hc
        exact .inr ⟨_, cs, B, a, ys, _, rfl, h, rs, hc.2, hc.1.1, hc.1.2, fun zs p rz hn => k _ _ (.lst hn rz)⟩
      · cases h1
  · cases hz
/-! ### list(range(..)) -/
def lr1 (m : M It) : M It := bnd m fun i s =>
  match i.at s.ρ with
  | some (.int n) => if small62 n && decide (n.toNat ≤ 16777216) then some (.ok (.val (.lst true (rng 0 n.toNat))), s) else none
  | _ => none
def lr2 (m n : M It) : M It := bnd m fun i => bnd n fun j s =>
  match i.at s.ρ, j.at s.ρ with
  | some (.int a), some (.int b) => if small62 a && small62 b && decide ((b - a).toNat ≤ 16777216) then some (.ok (.val (.lst true (rng a (b - a).toNat))), s) else none
  | _, _ => none
theorem rgV_reps {K : PySem.W.Frag} {mg : Str → Option Value} {cs B : List Addr} {H : Hp} (a b : Int) : Reps K mg cs B H (rgV a b) (rng a (b - a).toNat) [] := by
  unfold rgV rng
  have := Reps.of_ints (K := K) (mg := mg) (cs := cs) (B := B) (H := H) ((List.range (b - a).toNat).map fun (i : Nat) => a + (i : Int))
  rw [List.map_map, List.map_map] at this
  exact this
theorem dLR1 {p p2 pos pos2 : Pos} {a : Expr} {m : M It} (hc : X.calm = true) (hg : Gl X "list") (hm : X.mg "list" = none) (hg2 : Gl X "range") (hm2 : X.mg "range" = none) (ha : PE X a (TD X W m)) (na : starEach [a] X.env = (false, eval a X.env) :: starEach [] X.env := by rfl)
    (nb : starEach [(.Call (.Name "range" p2) [a] [] pos2)] X.env = (false, eval (.Call (.Name "range" p2) [a] [] pos2) X.env) :: starEach [] X.env := by rfl) :
    PE X (.Call (.Name "list" p) [(.Call (.Name "range" p2) [a] [] pos2)] [] pos) (TD X W (lr1 m)) :=
  PE.imp (pe_listRg hc hg hm (prg_1 hg2 hm2 ha na) nb) fun σ H Q ⟨Γ, cs, s, T, Fs, Ft, hK, hM, g, a⟩ => TD.go hK hM g (a.bnd.mono fun i s1 a1 v H1 cs1 Fs1 Ft1 g1 => by
    split at a1
    · rename_i n hn
      split at a1
      · rename_i hs
        rw [Bool.and_eq_true, decide_eq_true_eq] at hs
        obtain ⟨h1, h2⟩ := small62_le hs.1
        obtain ⟨f, r⟩ := g1.look hn
        cases r
        obtain ⟨F2, g2⟩ := g1.pop
        refine ⟨n, rfl, ⟨by omega, by omega, h1, h2, by omega⟩, fun q hq => ?_⟩
        obtain ⟨F3, g3⟩ := g2.out (.lst hq (rgV_reps 0 n))
        rw [Int.sub_zero] at g3
        exact a1 _ _ cs1 Fs1 F3 g3
      · exact a1.elim
    · exact a1.elim)
theorem dLR2 {p p2 pos pos2 : Pos} {a b : Expr} {m n : M It} (hc : X.calm = true) (hg : Gl X "list") (hm : X.mg "list" = none) (hg2 : Gl X "range") (hm2 : X.mg "range" = none) (ha : PE X a (TD X W m)) (hb : PE X b (TD X W n)) (na : starEach [a, b] X.env = (false, eval a X.env) :: starEach [b] X.env := by rfl)
    (nb : starEach [b] X.env = (false, eval b X.env) :: starEach [] X.env := by rfl) (hp : (backTo pos2 (starEach [b] X.env)).any (·.1) = false := by rfl) (nc : starEach [(.Call (.Name "range" p2) [a, b] [] pos2)] X.env = (false, eval (.Call (.Name "range" p2) [a, b] [] pos2) X.env) :: starEach [] X.env := by rfl) :
    PE X (.Call (.Name "list" p) [(.Call (.Name "range" p2) [a, b] [] pos2)] [] pos) (TD X W (lr2 m n)) :=
  PE.imp (pe_listRg hc hg hm (prg_2 hg2 hm2 ha hb na nb hp) nc) fun σ H Q ⟨Γ, cs, s, T, Fs, Ft, hK, hM, g, a⟩ => TD.go hK hM g (a.bnd.mono fun i s1 a1 v H1 cs1 Fs1 Ft1 g1 => TD.go hK hM g1 (a1.bnd.push.mono fun j s2 a2 v2 H2 cs2 Fs2 Ft2 g2 => by
    split at a2
    · rename_i x y hx hy
      split at a2
      · rename_i hs
        simp only [Bool.and_eq_true, decide_eq_true_eq] at hs
        obtain ⟨h1, h2⟩ := small62_le hs.1.1
        obtain ⟨h3, h4⟩ := small62_le hs.1.2
        obtain ⟨f, r⟩ := g2.look hy
        cases r
        obtain ⟨F3, g3⟩ := g2.pop
        obtain ⟨f, r⟩ := g3.look hx
        cases r
        obtain ⟨F4, g4⟩ := g3.pop
        refine ⟨x, y, rfl, rfl, ⟨h1, h2, h3, h4, by omega⟩, fun q hq => ?_⟩
        obtain ⟨F5, g5⟩ := g4.out (.lst hq (rgV_reps x y))
        exact a2 _ _ cs2 Fs2 F5 g5
      · exact a2.elim
    · exact a2.elim))
/-! ### xs[::-1] -/
def revM (m : M It) : M It := bnd m fun i s =>
  match i.sate s with
  | some (.lst _ ds) => some (.ok (.val (.lst true ds.reverse)), s)
  | some (.frz ds) => some (.ok (.val (.lst true ds.reverse)), s)
  | _ => none
theorem Reps.rev {K : PySem.W.Frag} {mg : Str → Option Value} {cs B : List Addr} {H : Hp} {vs : List V} {ds : List D} (r : Reps K mg cs B H vs ds []) : Reps K mg cs B H vs.reverse ds.reverse [] := by
  induction vs generalizing ds with
  | nil => cases r; exact .nil
  | cons v vs ih =>
    generalize hf : ([] : List Addr) = f at r
    cases r with
    | cons r1 r2 =>
      obtain ⟨e1, e2⟩ := List.append_eq_nil_iff.mp hf.symm
      subst e1 e2
      rw [List.reverse_cons, List.reverse_cons]
      simpa using (ih r2).append (.one r1)
theorem dRv {e : Expr} {m : M It} {k : Nat} {p1 p2 p3 pos : Pos} (h : PE X e (TD X W m)) : PE X (.Subscript e (.Slice none none (some (.UnaryOp .USub (.Constant (.int 1) k p1) p2)) p3) pos) (TD X W (revM m)) :=
  PE.imp (pe_revL h) fun σ H Q ⟨Γ, cs, s, T, Fs, Ft, hK, hM, g, a⟩ => TD.go hK hM g (a.bnd.mono fun i s1 a1 v H1 cs1 Fs1 Ft1 g1 => by
    split at a1
    · rename_i o ds hd
      obtain ⟨F2, g2, r, _⟩ := g1.sate hd
      obtain ⟨ad, xs, rfl, h1, rs⟩ := r.lstT
      refine ⟨ad, xs, rfl, .of h1, fun p hp => ?_⟩
      obtain ⟨F3, g3⟩ := g2.out (.lst hp rs.rev)
      exact a1 _ _ cs1 Fs1 F3 g3
    · rename_i ds hd
      obtain ⟨F2, g2, r, _⟩ := g1.sate hd
      obtain ⟨ad, xs, rfl, h1, rs, _⟩ := (r.un (by nofun)).frzL
      refine ⟨ad, xs, rfl, by rw [← hK]; exact h1, fun p hp => ?_⟩
      obtain ⟨F3, g3⟩ := g2.out (.lst hp rs.rev)
      exact a1 _ _ cs1 Fs1 F3 g3
    · exact a1.elim)
/-! ### name = [.. for ..] -/
theorem sNL {i : Nat} {y : Str} {py : Pos} {elt tg iter : Expr} {ifs : List Expr} {scope : Scope} {own : List (Str × Nat)} {pos spos : Pos} {m : M Src} {ws : List Nat} {f : Tgt} {t : M Bool} {e : M It} (hc : X.calm = true) (hN : X.N.Nodup) (hy : X.N[i]? = some y) (hyl : X.env.scope.names.lookup y = some .local)
    (hsw : swapsWith (.ListComp elt [⟨tg, iter, ifs, 0⟩] scope pos) (some (.Name y py)) spos.line X.env = pure true) (hi : PI X tg iter (TIt X W m)) (ok : BlkOk X.N X.env.scope scope own)
    (hg : ∀ (s : Shared) (H : Hp) (C : Addr) (cl : List (Str × Addr)) (fp : List Addr), PG (X.blk s H scope (compEnvC scope cl C X.env) fp) tg (TGt X ws f)) (ht : ∀ (s : Shared) (H : Hp) (C : Addr) (cl : List (Str × Addr)) (fp : List Addr), PTs (X.blk s H scope (compEnvC scope cl C X.env) fp) ifs (TB X (fun _ _ _ _ => False) t))
    (he : ∀ (s : Shared) (H : Hp) (C : Addr) (cl : List (Str × Addr)) (fp : List Addr), PE (X.blk s H scope (compEnvC scope cl C X.env) fp) elt (TD X (fun _ _ _ _ => False) e)) (hw : ws.all ((own.map (·.2)).contains ·) = true := by rfl) (hs : ∀ x, foldedSetIterable iter X.env x = pure x := by intro _; rfl) :
    PS X (.Assign [.Name y py] (.ListComp elt [⟨tg, iter, ifs, 0⟩] scope pos) spos) (TSt X W (asg (comp (own.map (·.2)) m f t e) (toN i))) :=
  PS.imp (ps_setLc hc hN hy hyl hsw hi ok hg ht he hs) fun D σ H ⟨Γ, cs, s, T, Fs, Ft, hK, hM, n, gd, a⟩ => comp_go hw (TD.go hK hM gd ((AfterS.bnd a).mono fun it s1 a1 v H1 cs1 Fs1 Ft1 g1 => gName_of _ _ _ _ (by
    cases it with
    | pk i => exact a1.elim
    | val d =>
      dsimp only at a1
      split at a1
      · rename_i s' e
        exact ⟨Γ, cs1, s1, s', T, d, Fs1, Ft1, hK, hM, n, g1, e, fun σ' H' cs' F F' g' _ _ => a1 σ' H' cs' F F' g'⟩
      · exact a1.elim)))
/-- .. as a cell -/
theorem sNLt {i : Nat} {y : Str} {py : Pos} {elt tg iter : Expr} {ifs : List Expr} {scope : Scope} {own : List (Str × Nat)} {pos spos : Pos} {m : M Src} {ws : List Nat} {f : Tgt} {t : M Bool} {e : M It} (hc : X.calm = true) (hN : X.N.Nodup) (hy : X.N[i]? = some y) (hyl : X.env.scope.names.lookup y = some .local)
    (hsw : swapsWith (.ListComp elt [⟨tg, iter, ifs, 0⟩] scope pos) (some (.Name y py)) spos.line X.env = pure true) (hi : PI X tg iter (TIt X W m)) (ok : BlkOk X.N X.env.scope scope own)
    (hg : ∀ (s : Shared) (H : Hp) (C : Addr) (cl : List (Str × Addr)) (fp : List Addr), PG (X.blk s H scope (compEnvC scope cl C X.env) fp) tg (TGt X ws f)) (ht : ∀ (s : Shared) (H : Hp) (C : Addr) (cl : List (Str × Addr)) (fp : List Addr), PTs (X.blk s H scope (compEnvC scope cl C X.env) fp) ifs (TB X (fun _ _ _ _ => False) t))
    (he : ∀ (s : Shared) (H : Hp) (C : Addr) (cl : List (Str × Addr)) (fp : List Addr), PE (X.blk s H scope (compEnvC scope cl C X.env) fp) elt (TD X (fun _ _ _ _ => False) e)) (hw : ws.all ((own.map (·.2)).contains ·) = true := by rfl) (hs : ∀ x, foldedSetIterable iter X.env x = pure x := by intro _; rfl) :
    PS X (.Assign [.Name y py] (.ListComp elt [⟨tg, iter, ifs, 0⟩] scope pos) spos) (TSt X W (asg (thawM (comp (own.map (·.2)) m f t e)) (toN i))) :=
  PS.imp (ps_setLc hc hN hy hyl hsw hi ok hg ht he hs) fun Dn σ H ⟨Γ, cs, s, T, Fs, Ft, hK, hM, n, gd, a⟩ => comp_go hw (TD.go hK hM gd ((AfterS.bnd a).bnd.mono fun it s1 a1 v H1 cs1 Fs1 Ft1 g1 => gName_of _ _ _ _ (by
    split at a1
    · obtain ⟨cs2, F2, g2⟩ := g1.thaw
      dsimp only at a1
      have a2 : AfterS W Γ T Dn (match toN i (.cell s1.μ.length) ⟨s1.ρ, s1.μ ++ [D.shares _]⟩ with
        | some s' => some (.ok .nx, s')
        | none => none) := a1
      split at a2
      · rename_i s' e
        exact ⟨Γ, cs2, _, s', T, _, Fs1, F2, hK, hM, n, g2, e, fun σ' H' cs' F F' g' _ _ => a2 σ' H' cs' F F' g'⟩
      · exact a2.elim
    · dsimp only at a1
      have a2 : AfterS W Γ T Dn (match toN i (.cell _) s1 with
        | some s' => some (.ok .nx, s')
        | none => none) := a1
      split at a2
      · rename_i s' e
        exact ⟨Γ, cs1, _, s', T, _, Fs1, Ft1, hK, hM, n, g1, e, fun σ' H' cs' F F' g' _ _ => a2 σ' H' cs' F F' g'⟩
      · exact a2.elim
    · exact a1.elim)))
end
end DL
namespace DL
open PySem L2
/-! ### a module's defs -/
/-- the def that stands under a name -/
def Df (K : PySem.W.Frag) (mg : Str → Option Value) (x : Str) (st : Stmt) (ps : List Str) : Prop :=
  ∃ (f : Addr) (fd : FuncData), Fun K x x st f fd ∧ mg x = some (.ref f) ∧ Binds K fd ps []
theorem Df.mk {K : PySem.W.Frag} {h : Heap} {mg : Str → Option Value} (X : K.In h) (G : h.Ns mainGlobals mg) {x : Str} {st : Stmt} {ps : List Str} {f : Addr} {oc : Value} {od an : Option Addr} {osl : Array (Option Value)} {kV doc pm cdv ct : Value}
    (b : ∀ (kV doc pm : Value) (an : Option Addr) (cdv ct : Value) (us : List Value), us.length = ps.length → bindArgs (PySem.W.fnOf x x (defArgs st) (defBody st) (defScope st) .none kV doc pm an cdv ct) ⟨us, []⟩ = pure (ps.zip us))
    (a : PySem.W.nsIn K mainGlobals x = some (some (.ref f))) (l : K.lookup f = some ⟨oc, od, .func (PySem.W.fnOf x x (defArgs st) (defBody st) (defScope st) .none kV doc pm an cdv ct), osl⟩) (c : PySem.W.codeIn K cdv x = true) (k : PySem.W.keepIn K (.ref f) = true) : Df K mg x st ps :=
  have F := fun_mk (st := st) l c k
  ⟨f, _, F, PySem.W.mg_of X G a, F.binds b⟩
/-- .. with its mirror -/
def Dn (P : Program) (w : World) (K : PySem.W.Frag) (mg : Str → Option Value) (base : Heap) (k : Nat) (x : Str) (st : Stmt) (ps : List Str) (F : Fn) : Prop :=
  ∃ (f : Addr) (fd : FuncData), Fun K x x st f fd ∧ mg x = some (.ref f) ∧ Binds K fd ps [] ∧ FnG P w K mg base k f fd ps F
section
variable {P : Program} {w : World} {K : PySem.W.Frag} {mg : Str → Option Value} {base : Heap}
theorem Dn.of {x : Str} {st : Stmt} {ps : List Str} {k : Nat} {F : Fn} (d : Df K mg x st ps) (h : ∀ (f : Addr) (fd : FuncData), Fun K x x st f fd → FnG P w K mg base k f fd ps F) : Dn P w K mg base k x st ps F :=
  let ⟨f, fd, a, b, c⟩ := d; ⟨f, fd, a, b, c, h f fd a⟩
theorem Dn.imp {x : Str} {st : Stmt} {ps : List Str} {k : Nat} {F F' : Fn} (d : Dn P w K mg base k x st ps F) (h : ∀ ds μ r, F' ds μ = some r → F ds μ = some r) : Dn P w K mg base k x st ps F' :=
  let ⟨f, fd, a, b, c, e⟩ := d; ⟨f, fd, a, b, c, e.imp h⟩
theorem Dn.mono {x : Str} {st : Stmt} {ps : List Str} {j k : Nat} {F : Fn} (d : Dn P w K mg base j x st ps F) (h : j ≤ k) : Dn P w K mg base k x st ps F :=
  let ⟨f, fd, a, b, c, e⟩ := d; ⟨f, fd, a, b, c, e.mono h⟩
end
theorem u70 {A : Around} {k : Nat} (hr : Room k A) : A.units + 70 < cLine := by have := hr.un; omega
theorem u65 {A : Around} {k : Nat} (hr : Room k A) : A.units + 65 < cLine := by have := hr.un; omega
theorem u64 {A : Around} {k : Nat} (hr : Room k A) : A.units + 64 < cLine := by have := hr.un; omega
theorem u0 {A : Around} {k : Nat} (hr : Room k A) : A.units < cLine := by have := hr.un; omega
section
variable {X : Cx} {W : WX}
/-- a call of a def of the module -/
theorem dCl {k n : Nat} {x : Str} {st : Stmt} {ps : List Str} {F : Fn} {p pos : Pos} {e : Expr} {es : List Expr} {m : M (List It)} (d : Dn X.prog X.w X.K X.mg X.base k x st ps F) (hr : Room n X.A) (hgd : X.A.guards = some []) (hx : ∀ σ, PassesAt (L2.CX X.prog X.w) X σ (WE W σ))
    (ha : PA X (e :: es) (TAs X W m)) (hn : ∀ l s s', m s = some (.ok l, s') → l.length = ps.length) (hk : k ≤ n := by decide) (hg : Gl X x := by rfl) (hdb : (x == ("__debug__" : Str)) = false := by decide) (he : starEach (e :: es) X.env = (false, eval e X.env) :: starEach es X.env := by rfl) (hpl : (backTo pos (starEach es X.env)).any (·.1) = false := by rfl) :
    PE X (.Call (.Name x p) (e :: es) [] pos) (TD X W (call F m)) :=
  let ⟨f, fd, a, b, c, G⟩ := d
  dF G hgd (hr.mono hk) hg b a.kp c hx ha hn hdb he hpl
theorem Fun.kb {K : PySem.W.Frag} {x : Str} {st : Stmt} {f : Addr} {fd : FuncData} {ps ks : List Str} {n : Nat} {pm : List Nat} (F : Fun K x x st f fd)
    (h : ∀ (kV doc pv : Value) (an : Option Addr) (cdv ct : Value) (us ws : List Value), us.length = n → ws.length = ks.length → bindArgs (PySem.W.fnOf x x (defArgs st) (defBody st) (defScope st) .none kV doc pv an cdv ct) ⟨us, ks.zip ws⟩ = pure (ps.zip (reord pm (us ++ ws)))) : KB K fd ps ks n pm := by
  obtain ⟨oc, od, kV, doc, pv, an, cdv, ct, osl, rfl, lk, hcd⟩ := F.ex
  exact fun s us ws _ h1 h2 => .of_eq (h kV doc pv an cdv ct us ws h1 h2)
theorem dCK0 {k n : Nat} {x : Str} {st : Stmt} {ps ks : List Str} {pm : List Nat} {F : Fn} {p pos : Pos} {kws : List Keyword} {mk : M (List It)} (d : Dn X.prog X.w X.K X.mg X.base k x st ps F) (hr : Room n X.A) (hgd : X.A.guards = some []) (hx : ∀ σ, PassesAt (L2.CX X.prog X.w) X σ (WE W σ))
    (hb : ∀ (kV doc pv : Value) (an : Option Addr) (cdv ct : Value) (us ws : List Value), us.length = 0 → ws.length = ks.length → bindArgs (PySem.W.fnOf x x (defArgs st) (defBody st) (defScope st) .none kV doc pv an cdv ct) ⟨us, ks.zip ws⟩ = pure (ps.zip (reord pm (us ++ ws))))
    (hkw : PK X kws (TAs X W mk)) (hn : ∀ l s s', mk s = some (.ok l, s') → l.length = ks.length) (hk : k ≤ n := by decide) (hg : Gl X x := by rfl) (hpm : pm.Perm (List.range ps.length) := by decide) (hkl : 0 + ks.length = ps.length := by decide)
    (hall : (backToKw pos (keywordEach kws X.env)).all (·.1.isSome) = true := by rfl) (hks : (backToKw pos (keywordEach kws X.env)).filterMap (·.1) = ks := by rfl) (hdb : (x == ("__debug__" : Str)) = false := by decide)
    (hpl : ((backTo pos (starEach [] X.env)).any (·.1) || (backToKw pos (keywordEach kws X.env)).any (·.1.isNone)) = false := by rfl) :
    PE X (.Call (.Name x p) [] kws pos) (TD X W (callK F pm args0 mk)) :=
  let ⟨f, fd, a, b, c, G⟩ := d
  dFK0 G hgd (hr.mono hk) hg b a.kp (Fun.kb a hb) hx hpm hkl hkw hn hall hks hdb hpl
theorem dCK {k n np : Nat} {x : Str} {st : Stmt} {ps ks : List Str} {pm : List Nat} {F : Fn} {p pos : Pos} {e : Expr} {es : List Expr} {kws : List Keyword} {ma mk : M (List It)} (d : Dn X.prog X.w X.K X.mg X.base k x st ps F) (hr : Room n X.A) (hgd : X.A.guards = some []) (hx : ∀ σ, PassesAt (L2.CX X.prog X.w) X σ (WE W σ))
    (hb : ∀ (kV doc pv : Value) (an : Option Addr) (cdv ct : Value) (us ws : List Value), us.length = np → ws.length = ks.length → bindArgs (PySem.W.fnOf x x (defArgs st) (defBody st) (defScope st) .none kV doc pv an cdv ct) ⟨us, ks.zip ws⟩ = pure (ps.zip (reord pm (us ++ ws))))
    (ha : PA X (e :: es) (TAs X W ma)) (hna : ∀ l s s', ma s = some (.ok l, s') → l.length = np) (hkw : PK X kws (TAs X W mk)) (hn : ∀ l s s', mk s = some (.ok l, s') → l.length = ks.length) (hk : k ≤ n := by decide) (hg : Gl X x := by rfl) (hpm : pm.Perm (List.range ps.length) := by decide) (hkl : np + ks.length = ps.length := by decide)
    (hall : (backToKw pos (keywordEach kws X.env)).all (·.1.isSome) = true := by rfl) (hks : (backToKw pos (keywordEach kws X.env)).filterMap (·.1) = ks := by rfl) (hdb : (x == ("__debug__" : Str)) = false := by decide) (he : starEach (e :: es) X.env = (false, eval e X.env) :: starEach es X.env := by rfl)
    (hpl : ((backTo pos (starEach (e :: es) X.env)).any (·.1) || (backToKw pos (keywordEach kws X.env)).any (·.1.isNone)) = false := by rfl) :
    PE X (.Call (.Name x p) (e :: es) kws pos) (TD X W (callK F pm ma mk)) :=
  let ⟨f, fd, a, b, c, G⟩ := d
  dFK G hgd (hr.mono hk) hg b a.kp (Fun.kb a hb) hx hpm hkl ha hna hkw hn hall hks hdb he hpl
/-! ### in short, for the printer -/
theorem cI {i : Int} {j pos} : PE X (.Constant (.int i) j pos) (TD X W (kst (.int i))) := dc pe_int (.int i)
theorem cS {x : Str} {j pos} : PE X (.Constant (.str x) j pos) (TD X W (kst (.str x))) := dc pe_str (.str x)
theorem cB {b : Bool} {j pos} : PE X (.Constant (.bool b) j pos) (TD X W (kst (.bool b))) := dc pe_bl (.bool b)
theorem cN {j pos} : PE X (.Constant .none j pos) (TD X W (kst .none)) := dc pe_non .none
theorem gI {x : Str} {i : Int} {pos : Pos} (h : ∃ t, X.mg x = some (.int i t)) (hg : Gl X x := by rfl) (hd : (x == ("__debug__" : Str)) = false := by decide) : PE X (.Name x pos) (TD X W (kst (.int i))) :=
  h.elim fun t e => dc (pe_glob (v := .int i) hg e ⟨t, rfl⟩ hd) (.int i)
theorem gStr {x z : Str} {pos : Pos} (h : ∃ t, X.mg x = some (.str z t)) (hg : Gl X x := by rfl) (hd : (x == ("__debug__" : Str)) = false := by decide) : PE X (.Name x pos) (TD X W (kst (.str z))) :=
  h.elim fun t e => dc (pe_glob (v := .str z) hg e ⟨t, rfl⟩ hd) (.str z)
theorem gTy {x : Str} {n : String} {pos : Pos} (hm : X.mg x = none) (hv : bootBuiltins x = some (.type n) := by decide +kernel) (hg : Gl X x := by rfl) (hn : x ≠ "__name__" := by decide) (hd : (x == ("__debug__" : Str)) = false := by decide) : PE X (.Name x pos) (TD X W (kst (.ty n))) :=
  dG (pe_bltn hg hm hv (show RelV (.ty n) (.type n) from rfl) hn hd) fun _ _ _ => .ty n
/-- built-ins: functions (f), classes (y); looked at (I), taken (C) -/
theorem fI {x : Str} {p pos : Pos} {e : Expr} {es : List Expr} {id : String} {r : List V → Hp → VK → Prop} {op : List D → Option D} {m : M (List It)} (o : ClI X r op) (hc : CallR X (.builtin id) r) (hm : X.mg x = none) (ha : PA X (e :: es) (TAs X W m)) (hv : bootBuiltins x = some (.builtin id) := by decide +kernel) (hg : Gl X x := by rfl) (hn : x ≠ "__name__" := by decide) (hdb : (x == ("__debug__" : Str)) = false := by decide)
    (he : starEach (e :: es) X.env = (false, eval e X.env) :: starEach es X.env := by rfl) (hpl : (backTo pos (starEach es X.env)).any (·.1) = false := by rfl) : PE X (.Call (.Name x p) (e :: es) [] pos) (TD X W (cliI op m)) := dBI o hc hg hm hv ha hn hdb he hpl
theorem fC {x : Str} {p pos : Pos} {e : Expr} {es : List Expr} {id : String} {r : List V → Hp → VK → Prop} {op : List D → Option D} {m : M (List It)} (o : ClC X r op) (hc : CallR X (.builtin id) r) (hm : X.mg x = none) (ha : PA X (e :: es) (TAs X W m)) (hv : bootBuiltins x = some (.builtin id) := by decide +kernel) (hg : Gl X x := by rfl) (hn : x ≠ "__name__" := by decide) (hdb : (x == ("__debug__" : Str)) = false := by decide)
    (he : starEach (e :: es) X.env = (false, eval e X.env) :: starEach es X.env := by rfl) (hpl : (backTo pos (starEach es X.env)).any (·.1) = false := by rfl) : PE X (.Call (.Name x p) (e :: es) [] pos) (TD X W (cliC op m)) := dBC o hc hg hm hv ha hn hdb he hpl
theorem yI {x : Str} {p pos : Pos} {e : Expr} {es : List Expr} {T : String} {r : List V → Hp → VK → Prop} {op : List D → Option D} {m : M (List It)} (o : ClI X r op) (hc : CallR X (.type T) r) (hm : X.mg x = none) (ha : PA X (e :: es) (TAs X W m)) (hv : bootBuiltins x = some (.type T) := by decide +kernel) (hg : Gl X x := by rfl) (hn : x ≠ "__name__" := by decide) (hdb : (x == ("__debug__" : Str)) = false := by decide)
    (he : starEach (e :: es) X.env = (false, eval e X.env) :: starEach es X.env := by rfl) (hpl : (backTo pos (starEach es X.env)).any (·.1) = false := by rfl) : PE X (.Call (.Name x p) (e :: es) [] pos) (TD X W (cliI op m)) := dYI o hc hg hm hv ha hn hdb he hpl
theorem yC {x : Str} {p pos : Pos} {e : Expr} {es : List Expr} {T : String} {r : List V → Hp → VK → Prop} {op : List D → Option D} {m : M (List It)} (o : ClC X r op) (hc : CallR X (.type T) r) (hm : X.mg x = none) (ha : PA X (e :: es) (TAs X W m)) (hv : bootBuiltins x = some (.type T) := by decide +kernel) (hg : Gl X x := by rfl) (hn : x ≠ "__name__" := by decide) (hdb : (x == ("__debug__" : Str)) = false := by decide)
    (he : starEach (e :: es) X.env = (false, eval e X.env) :: starEach es X.env := by rfl) (hpl : (backTo pos (starEach es X.env)).any (·.1) = false := by rfl) : PE X (.Call (.Name x p) (e :: es) [] pos) (TD X W (cliC op m)) := dYC o hc hg hm hv ha hn hdb he hpl
end
end DL
namespace DL
open PySem L2
open PySem.Spec
open PyProof.Rows hiding St
section
variable {X : Cx} {W : WX}
/-! ### a < b < c < d -/
def tCh3 (r1 r2 r3 : R2) (ta tb tc td : TE) : TE := fun σ H Q => ta σ H fun x H1 => tb σ H1 fun y H2 => r1 x y H2 fun z H3 => ∃ k, z = .bl k ∧
  (if k = true then tc σ H3 fun u H4 => r2 y u H4 fun z2 H5 => ∃ k2, z2 = .bl k2 ∧ (if k2 = true then td σ H5 fun v H6 => r3 u v H6 Q else Q (.bl false) H5) else Q (.bl false) H3)
theorem pe_ch3 {a b c d : Expr} {o1 o2 o3 : CmpOp} {pos : Pos} {r1 r2 r3 : R2} {ta tb tc td : TE} (h1 : OpR X (compareOp o1) r1) (h2 : OpR X (compareOp o2) r2) (h3 : OpR X (compareOp o3) r3) (ha : PE X a ta) (hb : PE X b tb) (hc : PE X c tc) (hd : PE X d td)
    (hm : lastMarks [o1, o2, o3] [b, c, d] = false := by with_unfolding_all rfl) : PE X (.Compare a [o1, o2, o3] [b, c, d] pos) (tCh3 r1 r2 r3 ta tb tc td) := by
  refine ⟨fun pins s σ H Q I h => ?_⟩
  refine Compare_chain (thn (ha.run pins s σ H _ I h) fun v s1 ⟨x, H1, I1, q1, h⟩ => chain_link (thn (hb.run pins s1 σ H1 _ I1 h) fun u s2 ⟨y, H2, I2, q2, h⟩ => thn (h1 pins s2 σ H2 x y v u _ I2 q1 q2 h) fun _ s3 ⟨z, H3, I3, q3, k, e, h⟩ => ?_)) hm
  subst e
  cases q3
  refine wpAny_truthy_bool ?_
  cases k with
  | false => exact ite_ff ⟨.bl false, H3, I3, rfl, h⟩
  | true =>
    refine ite_tt (chain_link (thn (hc.run pins s3 σ H3 _ I3 h) fun t s4 ⟨w, H4, I4, q4, h⟩ => thn (h2 pins s4 σ H4 y w u t _ I4 q2 q4 h) fun _ s5 ⟨z, H5, I5, q5, k, e, h⟩ => ?_))
    subst e
    cases q5
    refine wpAny_truthy_bool ?_
    cases k with
    | false => exact ite_ff ⟨.bl false, H5, I5, rfl, h⟩
    | true => exact ite_tt (chain_last (thn (hd.run pins s5 σ H5 _ I5 h) fun t2 s6 ⟨w2, H6, I6, q6, h⟩ => h3 pins s6 σ H6 w w2 t t2 Q I6 q4 q6 h))
/-- the rest of a chain, the one ahead in hand -/
def lnk (p q : D → D → Option D) (e : D) (m n : M It) : M It := bnd m fun j s =>
  match j.at s.ρ with
  | some f => match p e f, f.free with
    | some (.bool true), true => bnd n (fin1 (q f)) s
    | some (.bool false), _ => some (.ok (.val (.bool false)), s)
    | _, _ => none
  | _ => none
def chn3 (o p q : D → D → Option D) (m n k l : M It) : M It := bnd m fun i => bnd n fun j s =>
  match i.ato s, j.at s.ρ with
  | some d, some e => match o d e, e.free with
    | some (.bool true), true => lnk p q e k l s
    | some (.bool false), _ => some (.ok (.val (.bool false)), s)
    | _, _ => none
  | _, _ => none
theorem chn3_go {r1 r2 r3 : R2} {o p q : D → D → Option D} (od : OpI X r1 o) (pd : OpI X r2 p) (qd : OpI X r3 q) {m n k l : M It} {σ : L2.St} {H : Hp} {Q : VK} (h : TD X W (chn3 o p q m n k l) σ H Q) : tCh3 r1 r2 r3 (TD X W m) (TD X W n) (TD X W k) (TD X W l) σ H Q := by
  obtain ⟨Γ, cs, s, T, Fs, Ft, hK, hM, g, a⟩ := h
  refine TD.go hK hM g (a.bnd.mono fun i s1 a1 v1 H1 cs1 Fs1 Ft1 g1 => ?_)
  refine TD.go hK hM g1 (a1.bnd.push.mono fun j s2 a2 v2 H2 cs2 Fs2 Ft2 g2 => ?_)
  split at a2
  · rename_i d e h1 h2
    obtain ⟨f2, r2⟩ := g2.look h2
    obtain ⟨Ft3, g3, s3⟩ := g2.popS
    obtain ⟨f1, r1'⟩ := g3.looko h1
    obtain ⟨Ft4, g4, s4⟩ := g3.popS
    have r2' := r2.loose
    rw [hK, hM] at r1' r2'
    split at a2
    · rename_i hz hf
      refine od cs2 [] H2 v1 v2 d e _ f1 f2 _ r1' r2' hz fun v hv => ?_
      cases hv
      refine ⟨true, rfl, ?_⟩
      rw [if_pos rfl]
      have e2 := r2.free hf
      subst e2
      have g5 : Good Γ cs2 H2 σ s2.ρ s2.μ ((v2, .val e) :: T) Fs2 Ft4 := g4.push0 (r2.less (ban fun a h => s3 a (s4 a h)))
      refine TD.go hK hM g5 (After.bnd (f := fun j s => match j.at s.ρ with
        | some f => match p e f, f.free with
          | some (.bool true), true => bnd l (fin1 (q f)) s
          | some (.bool false), _ => some (.ok (.val (.bool false)), s)
          | _, _ => none
        | _ => none) a2 |>.push.mono fun j s6 a6 v6 H6 cs6 Fs6 Ft6 g6 => ?_)
      split at a6
      · rename_i f hj
        obtain ⟨f6, r6⟩ := g6.look hj
        obtain ⟨Ft7, g7, s7⟩ := g6.popS
        obtain ⟨f7, r7⟩ := g7.look (d := e) rfl
        obtain ⟨Ft8, g8, s8⟩ := g7.popS
        have r6' := r6.loose
        have r7' := r7.loose
        rw [hK, hM] at r6' r7'
        split at a6
        · rename_i hz2 hf2
          refine pd cs6 [] H6 v2 v6 e f _ f7 f6 _ r7' r6' hz2 fun v hv => ?_
          cases hv
          refine ⟨true, rfl, ?_⟩
          rw [if_pos rfl]
          have e6 := r6.free hf2
          subst e6
          have g9 : Good Γ cs6 H6 σ s6.ρ s6.μ ((v6, .val f) :: T) Fs6 Ft8 := g8.push0 (r6.less (ban fun a h => s7 a (s8 a h)))
          refine TD.go hK hM g9 (After.bnd a6 |>.push.mono fun z s10 a10 v10 H10 cs10 Fs10 Ft10 g10 => ?_)
          unfold fin1 at a10
          split at a10
          · rename_i f3 h3
            split at a10
            · rename_i z hz'
              obtain ⟨f6, r6'⟩ := g10.looko h3
              obtain ⟨Ft7, g7⟩ := g10.pop
              obtain ⟨f7, r7⟩ := g7.look (d := f) rfl
              obtain ⟨Ft8, g8⟩ := g7.pop
              have r7' := r7.loose
              rw [hK, hM] at r6' r7'
              exact qd cs10 [] H10 v6 v10 f f3 z f7 f6 Q r7' r6' hz' fun v hv => a10 v H10 cs10 Fs10 Ft8 (g8.push0 hv.rep)
            · exact a10.elim
          · exact a10.elim
        · rename_i hz2
          refine pd cs6 [] H6 v2 v6 e f _ f7 f6 _ r7' r6' hz2 fun v hv => ?_
          cases hv
          refine ⟨false, rfl, ?_⟩
          rw [if_neg Bool.false_ne_true]
          exact a6 _ H6 cs6 Fs6 Ft8 (g8.push0 (Scal.bool _).rep)
        · exact a6.elim
      · exact a6.elim
    · rename_i hz
      refine od cs2 [] H2 v1 v2 d e _ f1 f2 _ r1' r2' hz fun v hv => ?_
      cases hv
      refine ⟨false, rfl, ?_⟩
      rw [if_neg Bool.false_ne_true]
      exact a2 _ H2 cs2 Fs2 Ft4 (g4.push0 (Scal.bool _).rep)
    · exact a2.elim
  · exact a2.elim
theorem dC3 {a b c d : Expr} {o1 o2 o3 : CmpOp} {pos : Pos} {r1 r2 r3 : R2} {o p q : D → D → Option D} {m n k l : M It} (h1 : OpR X (compareOp o1) r1) (i1 : OpI X r1 o) (h2 : OpR X (compareOp o2) r2) (i2 : OpI X r2 p) (h3 : OpR X (compareOp o3) r3) (i3 : OpI X r3 q)
    (ha : PE X a (TD X W m)) (hb : PE X b (TD X W n)) (hc : PE X c (TD X W k)) (hd : PE X d (TD X W l)) (hm : lastMarks [o1, o2, o3] [b, c, d] = false := by with_unfolding_all rfl) : PE X (.Compare a [o1, o2, o3] [b, c, d] pos) (TD X W (chn3 o p q m n k l)) :=
  PE.imp (pe_ch3 h1 h2 h3 ha hb hc hd hm) fun σ H Q q => chn3_go i1 i2 i3 q
theorem dC2 {a b c : Expr} {o1 o2 : CmpOp} {pos : Pos} {r1 r2 : R2} {o p : D → D → Option D} {m n k : M It} (h1 : OpR X (compareOp o1) r1) (i1 : OpI X r1 o) (h2 : OpR X (compareOp o2) r2) (i2 : OpI X r2 p)
    (ha : PE X a (TD X W m)) (hb : PE X b (TD X W n)) (hc : PE X c (TD X W k)) (hm : lastMarks [o1, o2] [b, c] = false := by with_unfolding_all rfl) : PE X (.Compare a [o1, o2] [b, c] pos) (TD X W (chn o p m n k)) :=
  PE.imp (pe_chain h1 h2 ha hb hc hm) fun σ H Q q => chn_go i1 i2 q
theorem tC2 {a b c : Expr} {o1 o2 : CmpOp} {pos : Pos} {r1 r2 : R2} {o p : D → D → Option D} {m n k : M It} (h1 : OpR X (compareOp o1) r1) (i1 : OpI X r1 o) (h2 : OpR X (compareOp o2) r2) (i2 : OpI X r2 p)
    (ha : PE X a (TD X W m)) (hb : PE X b (TD X W n)) (hc : PE X c (TD X W k)) (hm : lastMarks [o1, o2] [b, c] = false := by with_unfolding_all rfl) : PT X (.Compare a [o1, o2] [b, c] pos) (TB X W (tst (chn o p m n k))) :=
  PT.imp (pt_chain h1 h2 ha hb hc hm) fun σ H Q q => chn_go i1 i2 (tst_go q)
end
end DL
namespace DL
open PySem L2
/-- the block's scope, by the names around it -/
def reScope (scope sc : Scope) : Scope := { scope with names := scope.names.map fun (n, k) => if (k == NameKind.free && sc.kind == .function && sc.names.lookup n == some .cell) then (n, NameKind.cell) else (n, k) }
theorem relabel_re (scope : Scope) (env : PySem.Env) : relabel scope env = reScope scope env.scope := rfl
theorem blk0 {X : Cx} {N : List Str} {sc scope : Scope} {own : List (Str × Nat)} (hN : X.N = N) (hs : X.env.scope = sc) (h : blkC N sc scope own = true) : BlkOk X.N X.env.scope scope own := by
  subst hN hs; exact blkOk_by h
end DL
namespace DL
open PySem L2
/-- a name whose things are taken: looked at where that is enough, else shared -/
def easy : D → Bool
  | .lst true ds => D.frees ds
  | d => d.free
def gC (i : Nat) : M It := fun s =>
  match s.ρ[i]? with
  | some (some d) => if easy d then gP i s else gS i s
  | _ => none
theorem dC {X : Cx} {W : WX} {e : Expr} {i : Nat} (h : PE X e (tVar i)) : PE X e (TD X W (gC i)) := by
  refine ⟨fun pins s σ H Q I ⟨Γ, cs, sg, T, Fs, Ft, hK, hM, g, a⟩ => ?_⟩
  unfold gC at a
  split at a
  · split at a
    · exact (dP h).run pins s σ H Q I ⟨Γ, cs, sg, T, Fs, Ft, hK, hM, g, a⟩
    · exact (dS h).run pins s σ H Q I ⟨Γ, cs, sg, T, Fs, Ft, hK, hM, g, a⟩
  · exact a.elim
/-- == of lists of other lengths, whatever they hold -/
def rEqLen (K : PySem.W.Frag) : R2 := fun x y H Q => ∃ (a b : Addr) (xs ys : List V), x = .ref a ∧ y = .ref b ∧ SqL K H a xs ∧ SqL K H b ys ∧ xs.length ≠ ys.length ∧ Q (.bl false) H
theorem op_eqLen {X : Cx} (hu : X.A.units < cLine) : OpR X (compareOp .Eq) (rEqLen X.K) := by
  intro pins s σ H x y v u Q I rx ry h
  obtain ⟨a, b, xs, ys, rfl, rfl, h1, h2, hn, q⟩ := h
  cases rx; cases ry
  obtain ⟨its, r1, p1, _⟩ := I.list h1
  obtain ⟨jts, r2, p2, _⟩ := I.list h2
  have l1 := r1.length
  have l2 := r2.length
  exact SeqAt.eq_list_lengthsAt p1.isList p2.isList (by simp only [List.size_toArray, bne_iff_ne]; omega) hu ⟨.bl false, H, I, rfl, q⟩
def lenOf : D → Option Nat
  | .lst _ ds => some ds.length
  | .frz ds => some ds.length
  | _ => none
/-- what eqD or neD does not tell: texts of any signs, lists of other lengths -/
def eqX (d e : D) : Option Bool :=
  match d, e with
  | .str x, .str y => some (decide (x = y))
  | d, e => match lenOf d, lenOf e with
    | some n, some m => if n = m then none else some false
    | _, _ => none
def eqE (d e : D) : Option D :=
  match eqD d e with
  | some z => some z
  | none => (eqX d e).map .bool
def neE (d e : D) : Option D :=
  match neD d e with
  | some z => some z
  | none => (eqX d e).map fun b => .bool (!b)
theorem Rep.lenL {K : PySem.W.Frag} {mg : Str → Option Value} {cs B : List Addr} {H : Hp} {v : V} {d : D} {f : List Addr} (r : Rep K mg cs B H v d f) {n : Nat} (e : lenOf d = some n) : ∃ a xs, v = .ref a ∧ SqL K H a xs ∧ xs.length = n := by
  unfold lenOf at e
  split at e
  · cases e
    obtain ⟨a, xs, g, rfl, hq, rs, _⟩ := (r.seq).1 _ _ rfl
    exact ⟨a, xs, rfl, hq, rs.length⟩
  · cases e
    obtain ⟨a, xs, rfl, hq, rs, _⟩ := r.frzL
    exact ⟨a, xs, rfl, hq, rs.length⟩
  · cases e
def rEqE (K : PySem.W.Frag) : R2 := fun x y H Q => rEqD K x y H Q ∨ rEq x y H Q ∨ rEqLen K x y H Q
theorem or_eq {X : Cx} (hu : X.A.units + 64 < cLine) : OpR X (compareOp .Eq) (rEqE X.K) := OpR.or (op_eqD hu) (OpR.or op_eq (op_eqLen (by omega)))
theorem eqX_go {K : PySem.W.Frag} {mg : Str → Option Value} {cs B : List Addr} {H : Hp} {x y : V} {d e : D} {b : Bool} {f g : List Addr} (rx : Rep K mg cs B H x d f) (ry : Rep K mg cs B H y e g) (hz : eqX d e = some b) :
    (∃ i j, x = .str i ∧ y = .str j ∧ b = decide (i = j)) ∨ (∃ (a c : Addr) (xs ys : List V), x = .ref a ∧ y = .ref c ∧ SqL K H a xs ∧ SqL K H c ys ∧ xs.length ≠ ys.length ∧ b = false) := by
  unfold eqX at hz
  split at hz
  · cases hz
    cases rx; cases ry
    exact .inl ⟨_, _, rfl, rfl, rfl⟩
  · split at hz
    · rename_i n m h1 h2
      split at hz
      · cases hz
      · rename_i hn
        cases hz
        obtain ⟨a, xs, rfl, q1, l1⟩ := rx.lenL h1
        obtain ⟨b, ys, rfl, q2, l2⟩ := ry.lenL h2
        exact .inr ⟨a, b, xs, ys, rfl, rfl, q1, q2, by rw [l1, l2]; exact hn, rfl⟩
    · cases hz
theorem oi_eqE {X : Cx} : OpI X (rEqE X.K) eqE := by
  intro cs B H x y d e z f g Q rx ry hz k
  unfold eqE at hz
  split at hz
  · rename_i z' h
    cases hz
    exact .inl (oi_eq cs B H x y d e z f g Q rx ry h k)
  · obtain ⟨b, hb, rfl⟩ := Option.map_eq_some_iff.mp hz
    rcases eqX_go rx ry hb with ⟨i, j, rfl, rfl, rfl⟩ | ⟨a, c, xs, ys, rfl, rfl, q1, q2, hn, rfl⟩
    · refine .inr (.inl ⟨rfl, ?_⟩)
      have e : decide (V.str i = V.str j) = decide (i = j) := by simp
      rw [e]; exact k _ (.bool _)
    · exact .inr (.inr ⟨a, c, xs, ys, rfl, rfl, q1, q2, hn, k _ (.bool _)⟩)
/-- != of lists of other lengths -/
def rNeLen (K : PySem.W.Frag) : R2 := fun x y H Q => ∃ (a b : Addr) (xs ys : List V), x = .ref a ∧ y = .ref b ∧ SqL K H a xs ∧ SqL K H b ys ∧ xs.length ≠ ys.length ∧ Q (.bl true) H
theorem op_neLen {X : Cx} (hu : X.A.units < cLine) : OpR X (compareOp .NotEq) (rNeLen X.K) := by
  intro pins s σ H x y v u Q I rx ry h
  obtain ⟨a, b, xs, ys, rfl, rfl, h1, h2, hn, q⟩ := h
  cases rx; cases ry
  obtain ⟨its, r1, p1, _⟩ := I.list h1
  obtain ⟨jts, r2, p2, _⟩ := I.list h2
  have l1 := r1.length
  have l2 := r2.length
  exact PySem.SeqAt.RcNeAt.lists_lengths p1.isList p2.isList (by simp only [List.size_toArray, bne_iff_ne]; omega) hu _ _ _ _ ⟨.bl true, H, I, rfl, q⟩
def rNeE (K : PySem.W.Frag) : R2 := fun x y H Q => rNeD K x y H Q ∨ rNe x y H Q ∨ rNeLen K x y H Q
theorem or_ne {X : Cx} (hu : X.A.units + 64 < cLine) : OpR X (compareOp .NotEq) (rNeE X.K) := OpR.or (op_neD hu) (OpR.or op_ne (op_neLen (by omega)))
theorem oi_neE {X : Cx} : OpI X (rNeE X.K) neE := by
  intro cs B H x y d e z f g Q rx ry hz k
  unfold neE at hz
  split at hz
  · rename_i z' h
    cases hz
    exact .inl (oi_ne cs B H x y d e z f g Q rx ry h k)
  · obtain ⟨b, hb, rfl⟩ := Option.map_eq_some_iff.mp hz
    rcases eqX_go rx ry hb with ⟨i, j, rfl, rfl, rfl⟩ | ⟨a, c, xs, ys, rfl, rfl, q1, q2, hn, rfl⟩
    · refine .inr (.inl ⟨rfl, ?_⟩)
      have e : decide (V.str i = V.str j) = decide (i = j) := by simp
      rw [e]; exact k _ (.bool _)
    · exact .inr (.inr ⟨a, c, xs, ys, rfl, rfl, q1, q2, hn, k _ (.bool _)⟩)
theorem law_fd {P : Program} {w : World} {K : PySem.W.Frag} {mg : Str → Option Value} {k : Nat} {x p : Str} {st : Stmt} {F : Fn} {fa : Addr} (d : Df K mg x st [p]) (hfa : mg x = some (.ref fa))
    (hb : ∀ (kV doc pm : Value) (an : Option Addr) (cdv ct u : Value), bindArgs (PySem.W.fnOf x x (defArgs st) (defBody st) (defScope st) .none kV doc pm an cdv ct) ⟨[u], []⟩ = pure [(p, u)])
    (h : ∀ base : Heap, K.In base → base.Ns mainGlobals mg → Dn P w K mg base k x st [p] F) :
    ∃ fd : FuncData, (∀ (s : Shared) (u : Value), BindsTo s fd ⟨[u], []⟩ [(p, u)]) ∧ ∀ base : Heap, K.In base → base.Ns mainGlobals mg → FnG P w K mg base k fa fd [p] F := by
  obtain ⟨f, fd, F1, m1, b1⟩ := d
  rw [hfa] at m1
  cases m1
  obtain ⟨oc, od, kV, doc, pm, an, cdv, ct, osl, e1, l1, _⟩ := F1.ex
  refine ⟨fd, fun s u => ?_, fun base h1 h2 => ?_⟩
  · subst e1
    exact .of_eq (hb kV doc pm an cdv ct u)
  · obtain ⟨f2, fd2, F2, m2, _, G⟩ := h base h1 h2
    rw [hfa] at m2
    cases m2
    obtain ⟨_, _, _, _, _, _, _, _, _, _, l2, _⟩ := F2.ex
    rw [l1] at l2
    cases l2
    exact G
end DL
namespace DL
open PySem L2
/-! ### all owned lists within become cells -/
mutual
/-- n: the next cell's place -/
def D.thaw : D → Nat → D × Cells
  | .lst true xs, n => let z := D.thaws xs n; (.cell (n + z.2.length), z.2 ++ [z.1])
  | .tup xs, n => let z := D.thaws xs n; (.tup z.1, z.2)
  | d, _ => (d, [])
def D.thaws : List D → Nat → List D × Cells
  | [], _ => ([], [])
  | d :: ds, n => let z := D.thaw d n; let y := D.thaws ds (n + z.2.length); (z.1 :: y.1, z.2 ++ y.2)
end
section
variable {K : PySem.W.Frag} {mg : Str → Option Value} {B : List Addr} {H : Hp}
theorem CellsOk.up {cs cs' : List Addr} {as : List Addr} {ms : Cells} (h : CellsOk K mg cs B H as ms) (hc : ∀ (k : Nat) (a : Addr), cs[k]? = some a → cs'[k]? = some a) : CellsOk K mg cs' B H as ms := by
  induction h with
  | nil => exact .nil
  | cons e r _ ih => exact .cons e (r.on (W := []) (Stp.refl H B) hc (fun _ h => .inl h) fun _ h => nomatch h) ih
theorem CellsOk.cat {cs as bs : List Addr} {ms ns : Cells} (h : CellsOk K mg cs B H as ms) (k : CellsOk K mg cs B H bs ns) : CellsOk K mg cs B H (as ++ bs) (ms ++ ns) := by
  induction h with
  | nil => exact k
  | cons e r _ ih => exact .cons e r ih
theorem app_up {cs as : List Addr} : ∀ (k : Nat) (a : Addr), cs[k]? = some a → (cs ++ as)[k]? = some a := fun k a e => by
  rw [List.getElem?_append_left (List.getElem?_eq_some_iff.mp e).1]; exact e
theorem Rep.up {cs cs' : List Addr} {v : V} {d : D} (h : Rep K mg cs B H v d []) (hc : ∀ (k : Nat) (a : Addr), cs[k]? = some a → cs'[k]? = some a) : Rep K mg cs' B H v d [] :=
  h.on (W := []) (Stp.refl H B) hc (fun _ h => .inl h) fun _ h => nomatch h
theorem Reps.up {cs cs' : List Addr} {v : List V} {d : List D} (h : Reps K mg cs B H v d []) (hc : ∀ (k : Nat) (a : Addr), cs[k]? = some a → cs'[k]? = some a) : Reps K mg cs' B H v d [] :=
  h.on (W := []) (Stp.refl H B) hc (fun _ h => .inl h) fun _ h => nomatch h
mutual
theorem Rep.thawed : ∀ {cs : List Addr} {v : V} {d : D} {f : List Addr}, Rep K mg cs B H v d f → ∃ as : List Addr, as.length = (d.thaw cs.length).2.length ∧ (∀ a, as.count a = f.count a) ∧ Rep K mg (cs ++ as) B H v (d.thaw cs.length).1 [] ∧ CellsOk K mg (cs ++ as) B H as (d.thaw cs.length).2
  | cs, _, _, _, .lstO (a := p) (ds := ds) h r => by
    obtain ⟨as, h1, h2, h3, h4⟩ := Reps.thawed r
    refine ⟨as ++ [p], ?_, fun a => ?_, ?_, ?_⟩
    · simp only [D.thaw, List.length_append, List.length_singleton, h1]
    · have := h2 a
      simp only [List.count_append, List.count_cons, List.count_nil]; omega
    · simp only [D.thaw]
      refine .cell ?_
      rw [← List.append_assoc, ← h1, ← List.length_append]
      simp
    · simp only [D.thaw]
      have up := app_up (cs := cs ++ as) (as := [p])
      rw [← List.append_assoc]
      exact (h4.up up).snoc h (h3.up up)
  | cs, _, _, _, .tup (ds := ds) h r => by
    obtain ⟨as, h1, h2, h3, h4⟩ := Reps.thawed r
    exact ⟨as, by simp only [D.thaw, h1], h2, by simp only [D.thaw]; exact .tup h h3, by simp only [D.thaw]; exact h4⟩
  | cs, _, _, _, .none => ⟨[], rfl, fun _ => rfl, by rw [List.append_nil]; exact .none, .nil⟩
  | cs, _, _, _, .bool b => ⟨[], rfl, fun _ => rfl, by rw [List.append_nil]; exact .bool b, .nil⟩
  | cs, _, _, _, .int b => ⟨[], rfl, fun _ => rfl, by rw [List.append_nil]; exact .int b, .nil⟩
  | cs, _, _, _, .str b => ⟨[], rfl, fun _ => rfl, by rw [List.append_nil]; exact .str b, .nil⟩
  | cs, _, _, _, .frz h r => ⟨[], rfl, fun _ => rfl, by rw [List.append_nil]; exact .frz h r, .nil⟩
  | cs, _, _, _, .lstS h n r => ⟨[], rfl, fun _ => rfl, by rw [List.append_nil]; exact .lstS h n r, .nil⟩
  | cs, _, _, _, .dic h r => ⟨[], rfl, fun _ => rfl, by rw [List.append_nil]; exact .dic h r, .nil⟩
  | cs, _, _, _, .cell h => ⟨[], rfl, fun _ => rfl, by rw [List.append_nil]; exact .cell h, .nil⟩
  | cs, _, _, _, .exc h1 h2 h3 r => ⟨[], rfl, fun _ => rfl, by rw [List.append_nil]; exact .exc h1 h2 h3 r, .nil⟩
  | cs, _, _, _, .fn h => ⟨[], rfl, fun _ => rfl, by rw [List.append_nil]; exact .fn h, .nil⟩
  | cs, _, _, _, .ty n => ⟨[], rfl, fun _ => rfl, by rw [List.append_nil]; exact .ty n, .nil⟩
theorem Reps.thawed : ∀ {cs : List Addr} {vs : List V} {ds : List D} {f : List Addr}, Reps K mg cs B H vs ds f → ∃ as : List Addr, as.length = (D.thaws ds cs.length).2.length ∧ (∀ a, as.count a = f.count a) ∧ Reps K mg (cs ++ as) B H vs (D.thaws ds cs.length).1 [] ∧ CellsOk K mg (cs ++ as) B H as (D.thaws ds cs.length).2
  | cs, _, _, _, .nil => ⟨[], rfl, fun _ => rfl, .nil, .nil⟩
  | cs, _, _, _, .cons (d := d) (ds := ds) (f := f) (g := g) r t => by
    obtain ⟨as, h1, h2, h3, h4⟩ := Rep.thawed r
    have t' : Reps K mg (cs ++ as) B H _ ds g := t.on (W := []) (Stp.refl H B) app_up (fun _ h => .inl h) fun _ _ h => nomatch h
    obtain ⟨bs, k1, k2, k3, k4⟩ := Reps.thawed t'
    have e : (cs ++ as).length = cs.length + (d.thaw cs.length).2.length := by rw [List.length_append, h1]
    rw [e] at k1 k3 k4
    refine ⟨as ++ bs, ?_, fun a => ?_, ?_, ?_⟩
    · simp only [D.thaws, List.length_append, h1, k1]
    · have := h2 a
      have := k2 a
      simp only [List.count_append]; omega
    · simp only [D.thaws]
      rw [← List.append_assoc]
      exact .cons (f := []) (g := []) (h3.up app_up) k3
    · simp only [D.thaws]
      rw [← List.append_assoc]
      exact (h4.up app_up).cat k4
end
end
section
variable {Γ : Gm} {cs : List Addr} {H : Hp} {σ : St} {ρ : Env} {μ : Cells} {T : Tmp} {Fs Ft : List Addr}
theorem Good.thawD {v : V} {d : D} (g : Good Γ cs H σ ρ μ ((v, .val d) :: T) Fs Ft) : ∃ cs' Ft', Good Γ cs' H σ ρ (μ ++ (d.thaw μ.length).2) ((v, .val (d.thaw μ.length).1) :: T) Fs Ft' := by
  have t := g.tm
  generalize hT : ((v, .val d) :: T : Tmp) = T' at t
  cases t with
  | nil => cases hT
  | pk h t => cases hT
  | @val v1 d1 f1 T1 f' r t =>
    cases hT
    have nd := g.nd
    simp only [List.count_append] at nd
    obtain ⟨as, h1, h2, h3, h4⟩ := r.thawed
    have hlen := g.ce.len
    rw [hlen] at h1 h3 h4
    have hB : ∀ a ∈ Fs ++ f' ++ (cs ++ as) ++ Γ.G, a ∈ Fs ++ (f1 ++ f') ++ cs ++ Γ.G := fun a h => by
      have := h2 a
      simp only [List.mem_append, memc] at h ⊢
      omega
    have hB1 : ∀ a ∈ Fs ++ f' ++ (cs ++ as) ++ Γ.G, a ∈ Fs ++ (f1 ++ f') ++ cs ++ Γ.G ∨ H a = none := fun a h => .inl (hB a h)
    have nW : ∀ {l : List Addr}, ∀ a ∈ l, a ∉ ([] : List Addr) := fun _ _ h => nomatch h
    have s := Stp.refl H (Fs ++ (f1 ++ f') ++ cs ++ Γ.G)
    have c1 : CellsOk Γ.K Γ.mg (cs ++ as) (Fs ++ f' ++ (cs ++ as) ++ Γ.G) H cs μ := g.ce.on s app_up hB1 nW
    have c2 : CellsOk Γ.K Γ.mg (cs ++ as) (Fs ++ f' ++ (cs ++ as) ++ Γ.G) H as (d.thaw μ.length).2 := h4.on s (fun _ _ e => e) hB1 nW
    refine ⟨cs ++ as, f', ⟨g.sl.on s app_up hB1 nW, .val (f := []) (h3.on (W := []) s (fun _ _ e => e) hB1 nW) (t.on s app_up hB1 nW), c1.cat c2, fun a => ?_, g.kp, fun a h => ?_, fun k a e => app_up k a (g.c1 k a e), fun a h => ?_, g.g0⟩⟩
    · have := nd a
      have := h2 a
      simp only [List.count_append]
      omega
    · refine g.fr a ?_
      exact h.imp_right fun h => by simp [h]
    · simp only [List.mem_append] at h
      rcases h with h | h
      · exact g.c2 a h
      · have : a ∈ f1 := by
          have := h2 a
          rw [memc] at h ⊢; omega
        exact .inr (g.fr a (.inr (by simp [this])))
end
section
variable {X : Cx} {W : WX}
def thawD (m : M It) : M It := bnd m fun it s =>
  match it with
  | .val d => some (.ok (.val (d.thaw s.μ.length).1), ⟨s.ρ, s.μ ++ (d.thaw s.μ.length).2⟩)
  | _ => none
theorem dThD {e : Expr} {m : M It} (h : PE X e (TD X W m)) : PE X e (TD X W (thawD m)) :=
  PE.imp h fun σ H Q ⟨Γ, cs, s, T, Fs, Ft, hK, hM, g, a⟩ => TD.go hK hM g (a.bnd.mono fun it s1 a1 v H1 cs1 Fs1 Ft1 g1 => by
    split at a1
    · obtain ⟨cs2, F2, g2⟩ := g1.thawD
      exact a1 v H1 cs2 Fs1 F2 g2
    · exact a1.elim)
end
/-! ### cells within are looked at as what they hold now -/
def optAll : List (Option D) → Option (List D)
  | [] => some []
  | o :: os => match o, optAll os with
    | some d, some ds => some (d :: ds)
    | _, _ => none
def D.res (μ : Cells) : Nat → D → Option D
  | 0, _ => Option.none
  | n + 1, .cell k => match μ[k]? with
    | some ds => (optAll (ds.map (D.res μ n))).map (.lst true)
    | Option.none => Option.none
  | n + 1, .lst _ xs => (optAll (xs.map (D.res μ n))).map (.lst true)
  | n + 1, .tup xs => (optAll (xs.map (D.res μ n))).map .tup
  | _ + 1, d => some d
section
variable {Γ : Gm} {cs : List Addr} {H : Hp} {σ : St} {ρ : Env} {μ : Cells} {T : Tmp} {Fs Ft : List Addr}
theorem Reps.res {K : PySem.W.Frag} {mg : Str → Option Value} {n : Nat} (ih : ∀ (v : V) (d d' : D) (f : List Addr), Rep K mg cs [] H v d f → D.res μ n d = some d' → ∃ f', Rep K mg cs [] H v d' f') :
    ∀ {ds : List D} {vs : List V} {ds' : List D} {f : List Addr}, Reps K mg cs [] H vs ds f → optAll (ds.map (D.res μ n)) = some ds' → ∃ f', Reps K mg cs [] H vs ds' f'
  | [], vs, ds', f, r, e => by
    cases r; cases e; exact ⟨[], .nil⟩
  | d :: ds, vs, ds', f, r, e => by
    cases r with
    | cons r1 r2 =>
      simp only [List.map_cons, optAll] at e
      split at e
      · rename_i d' es h1 h2
        cases e
        obtain ⟨f1, s1⟩ := ih _ _ _ _ r1 h1
        obtain ⟨f2, s2⟩ := Reps.res ih r2 h2
        exact ⟨_, .cons s1 s2⟩
      · cases e
/-- looked at alone -/
theorem Good.res (g : Good Γ cs H σ ρ μ T Fs Ft) : ∀ (n : Nat) (v : V) (d d' : D) (f : List Addr), Rep Γ.K Γ.mg cs [] H v d f → D.res μ n d = some d' → ∃ f', Rep Γ.K Γ.mg cs [] H v d' f'
  | 0, v, d, d', f, r, e => by cases e
  | n + 1, v, d, d', f, r, e => by
    have ih := Good.res g n
    cases r with
    | cell hc =>
      simp only [D.res] at e
      split at e
      · rename_i ds he
        obtain ⟨es, h1, rfl⟩ := Option.map_eq_some_iff.mp e
        obtain ⟨xs, hx, rs⟩ := g.cell hc he
        obtain ⟨f', rs'⟩ := Reps.res (fun v d d' f r e => ih v d d' f r e) rs.loose h1
        exact ⟨_, .lstO hx rs'⟩
      · cases e
    | lstS h nb r =>
      simp only [D.res] at e
      obtain ⟨es, h1, rfl⟩ := Option.map_eq_some_iff.mp e
      obtain ⟨f', rs'⟩ := Reps.res (fun v d d' f r e => ih v d d' f r e) r h1
      exact ⟨_, .lstO h rs'⟩
    | lstO h r =>
      simp only [D.res] at e
      obtain ⟨es, h1, rfl⟩ := Option.map_eq_some_iff.mp e
      obtain ⟨f', rs'⟩ := Reps.res (fun v d d' f r e => ih v d d' f r e) r h1
      exact ⟨_, .lstO h rs'⟩
    | tup h r =>
      simp only [D.res] at e
      obtain ⟨es, h1, rfl⟩ := Option.map_eq_some_iff.mp e
      obtain ⟨f', rs'⟩ := Reps.res (fun v d d' f r e => ih v d d' f r e) r h1
      exact ⟨_, .tup h rs'⟩
    | frz h r => cases e; exact ⟨_, .frz h r⟩
    | none => cases e; exact ⟨_, .none⟩
    | bool b => cases e; exact ⟨_, .bool b⟩
    | int i => cases e; exact ⟨_, .int i⟩
    | str x => cases e; exact ⟨_, .str x⟩
    | dic h r => cases e; exact ⟨_, .dic h r⟩
    | exc h1 h2 h3 r => cases e; exact ⟨_, .exc h1 h2 h3 r⟩
    | fn h => cases e; exact ⟨_, .fn h⟩
    | ty n => cases e; exact ⟨_, .ty n⟩
/-- an operand, looked at with all that its cells hold now -/
def It.atr (i : It) (s : Sg) : Option D := (i.at s.ρ).bind (D.res s.μ 60)
theorem Good.lookr {s : Sg} {v : V} {it : It} (g : Good Γ cs H σ s.ρ s.μ ((v, it) :: T) Fs Ft) {d : D} (e : it.atr s = some d) : ∃ f, Rep Γ.K Γ.mg cs [] H v d f := by
  unfold It.atr at e
  obtain ⟨d0, h1, h2⟩ := Option.bind_eq_some_iff.mp e
  obtain ⟨f, r⟩ := g.look h1
  exact g.res 60 v d0 d f r.loose h2
def atrAll (s : Sg) : List It → Option (List D)
  | [] => some []
  | i :: r => match i.atr s, atrAll s r with
    | some d, some ds => some (d :: ds)
    | _, _ => none
theorem Good.lookrAll {s : Sg} : ∀ {its : List It} {vs : List V} {Ft : List Addr} {ds : List D}, vs.length = its.length → Good Γ cs H σ s.ρ s.μ (List.zip vs its ++ T) Fs Ft → atrAll s its = some ds → ∃ f, Reps Γ.K Γ.mg cs [] H vs ds f
  | [], vs, Ft, ds, hl, g, e => by
    have : vs = [] := by simpa using hl
    subst this
    cases e
    exact ⟨[], .nil⟩
  | i :: its, [], Ft, ds, hl, g, e => by simp at hl
  | i :: its, v :: vs, Ft, ds, hl, g, e => by
    unfold atrAll at e
    split at e
    · rename_i d ds' h1 h2
      cases e
      obtain ⟨f1, r1⟩ := Good.lookr (it := i) (v := v) g h1
      obtain ⟨F1, g1, s1⟩ := Good.popS (it := i) (v := v) g
      obtain ⟨f2, r2⟩ := Good.lookrAll (by simpa using hl) g1 h2
      exact ⟨_, .cons r1 r2⟩
    · cases e
end
section
variable {X : Cx} {W : WX}
def cliR (op : List D → Option D) (m : M (List It)) : M It := bnd m fun l s =>
  match atrAll s l with
  | some ds => match op ds with
    | some z => some (.ok (.val z), s)
    | none => none
  | none => none
theorem cli_R {r : List V → Hp → VK → Prop} {op : List D → Option D} (o : ClI X r op) {m : M (List It)} {σ : St} {H : Hp} {Q : VK} (h : TD X W (cliR op m) σ H Q) : tCB r (TAs X W m) σ H Q := by
  obtain ⟨Γ, cs, s, T, Fs, Ft, hK, hM, g, a⟩ := h
  refine TAs.go hK hM g (a.bnd.mono fun l s1 a1 vs H1 cs1 Fs1 Ft1 hl g1 => ?_)
  split at a1
  · rename_i ds h1
    split at a1
    · rename_i z hz
      obtain ⟨f, r⟩ := Good.lookrAll hl g1 h1
      obtain ⟨F2, g2, _⟩ := Good.popAll hl g1
      rw [hK, hM] at r
      exact o cs1 H1 vs ds z f Q r hz fun v hv => a1 v H1 cs1 Fs1 F2 (g2.push0 hv.rep)
    · exact a1.elim
  · exact a1.elim
theorem dBR {x : Str} {p pos : Pos} {e : Expr} {es : List Expr} {id : String} {r : List V → Hp → VK → Prop} {op : List D → Option D} {m : M (List It)} (o : ClI X r op) (hc : CallR X (.builtin id) r) (hg : Gl X x) (hm : X.mg x = none) (hv : bootBuiltins x = some (.builtin id)) (ha : PA X (e :: es) (TAs X W m)) (hn : x ≠ "__name__" := by decide) (hdb : (x == ("__debug__" : Str)) = false := by decide)
    (he : starEach (e :: es) X.env = (false, eval e X.env) :: starEach es X.env := by rfl) (hpl : (backTo pos (starEach es X.env)).any (·.1) = false := by rfl) : PE X (.Call (.Name x p) (e :: es) [] pos) (TD X W (cliR op m)) :=
  PE.imp (pe_callB hc hg hm hv ha hn hdb he hpl) fun σ H Q q => cli_R o q
def binR (op : D → D → Option D) (m n : M It) : M It := bnd m fun i => bnd n fun j s =>
  match i.atr s, j.atr s with
  | some d, some e => match op d e with
    | some z => some (.ok (.val z), s)
    | none => none
  | _, _ => none
theorem bin_R {r : R2} {op : D → D → Option D} (o : OpI X r op) {m n : M It} {σ : St} {H : Hp} {Q : VK} (h : TD X W (binR op m n) σ H Q) : tOp r (TD X W m) (TD X W n) σ H Q := by
  obtain ⟨Γ, cs, s, T, Fs, Ft, hK, hM, g, a⟩ := h
  refine TD.go hK hM g (a.bnd.mono fun i s1 a1 v1 H1 cs1 Fs1 Ft1 g1 => ?_)
  refine TD.go hK hM g1 (a1.bnd.push.mono fun j s2 a2 v2 H2 cs2 Fs2 Ft2 g2 => ?_)
  split at a2
  · rename_i d e h1 h2
    split at a2
    · rename_i z hz
      obtain ⟨f2, r2'⟩ := g2.lookr h2
      obtain ⟨Ft3, g3⟩ := g2.pop
      obtain ⟨f1, r1'⟩ := g3.lookr h1
      obtain ⟨Ft4, g4⟩ := g3.pop
      rw [hK, hM] at r1' r2'
      exact o cs2 [] H2 v1 v2 d e z f1 f2 Q r1' r2' hz fun v hv => a2 v H2 cs2 Fs2 Ft4 (g4.push0 hv.rep)
    · exact a2.elim
  · exact a2.elim
theorem dIR {op : CmpOp} {a b : Expr} {r : R2} {o : D → D → Option D} {m n : M It} {pos : Pos} (ho : OpR X (compareOp op) r) (od : OpI X r o) (ha : PE X a (TD X W m)) (hb : PE X b (TD X W n)) (hm : behindInMarks op b = false := by first | exact nomark _ | rfl) :
    PE X (.Compare a [op] [b] pos) (TD X W (binR o m n)) :=
  PE.imp (pe_cmpR ho ha hb hm) fun σ H Q q => bin_R od q
theorem fR {x : Str} {p pos : Pos} {e : Expr} {es : List Expr} {id : String} {r : List V → Hp → VK → Prop} {op : List D → Option D} {m : M (List It)} (o : ClI X r op) (hc : CallR X (.builtin id) r) (hm : X.mg x = none) (ha : PA X (e :: es) (TAs X W m)) (hv : bootBuiltins x = some (.builtin id) := by decide +kernel) (hg : Gl X x := by rfl) (hn : x ≠ "__name__" := by decide) (hdb : (x == ("__debug__" : Str)) = false := by decide)
    (he : starEach (e :: es) X.env = (false, eval e X.env) :: starEach es X.env := by rfl) (hpl : (backTo pos (starEach es X.env)).any (·.1) = false := by rfl) : PE X (.Call (.Name x p) (e :: es) [] pos) (TD X W (cliR op m)) := dBR o hc hg hm hv ha hn hdb he hpl
end
end DL
/-! zip with strict=True, down in the built-in's code -/
namespace ZS
open PySem
open Sem (wp)
/-- the walker of a strict zip -/
def ZAt (h : Heap) (z TI TO : Addr) (f : Value) : Prop :=
  h.get? z = some { cls := .type "zip", dict := none, data := .fields #[f, .bool false, .bool true, .ref TI, .ref TO], slots := #[] }
section
variable {A : Around} {prog : Program} {w : World} {s : Shared} {E : Value → Shared → Prop}
theorem draw_some {it l : Addr} {k : Nat} {xs : Array Value} {x : Value} {Q : Option Value → Shared → Prop} (h1 : s.heap.IsListIter it l k) (h2 : s.heap.IsList l xs) (hx : xs[k]? = some x)
    (q : ∀ g, g.IsListIter it l (k + 1) → Heap.SameBut it s.heap g → Q (some x) { s with heap := g }) : wpAny (model prog w) A (Builtin.SmallTypes.nextOrEnd (.ref it)) Q E s := by
  unfold Builtin.SmallTypes.nextOrEnd
  exact wpAny_bind (wpAny_attempt (wpAny_nextOf_list_item h1 h2 hx fun g a b => wpAny_pure (q g a b)))
theorem draw_none {it l : Addr} {k : Nat} {xs : Array Value} {Q : Option Value → Shared → Prop} (hh : A.handled = none) (h1 : s.heap.IsListIter it l k) (h2 : s.heap.IsList l xs) (hx : xs[k]? = none)
    (q : ∀ g, Heap.ExtBut it s.heap g → Q none { s with heap := g }) : wpAny (model prog w) A (Builtin.SmallTypes.nextOrEnd (.ref it)) Q E s := by
  unfold Builtin.SmallTypes.nextOrEnd
  refine wpAny_bind (wpAny_attempt (wpAny_nextOf_list_end hh h1 h2 hx fun g e a he => ?_))
  obtain ⟨oe, e1, e2⟩ := he
  exact wpAny_bind (wpAny_isInstance (T := "StopIteration") (b := true) ⟨oe, e1, e2⟩ isSubtype_stop (wpAny_pure (q g a)))
/-- one more pair -/
theorem step_go {z t o p q l m : Addr} {i j : Nat} {xs ys : Array Value} {x y c d : Value} {Q : Value → Shared → Prop} (D : ZipApart z t o p q l m) (Z : ZAt s.heap z t o .none) (T : IsPair s.heap t (.ref p) (.ref q)) (O : IsPair s.heap o c d)
    (P1 : s.heap.IsListIter p l i) (P2 : s.heap.IsListIter q m j) (L1 : s.heap.IsList l xs) (L2 : s.heap.IsList m ys) (ex : xs[i]? = some x) (ey : ys[j]? = some y)
    (k : ∀ g, ZAt g z t o (rawInt s.heap.objs.size) → IsPair g o x y → g.IsListIter p l (i + 1) → g.IsListIter q m (j + 1) → IsPair g s.heap.objs.size x y → g.objs.size = s.heap.objs.size + 1 →
      (∀ u w, u ≠ z → u ≠ o → u ≠ p → u ≠ q → s.heap.get? u = some w → g.get? u = some w) → Q (.ref s.heap.objs.size) { s with heap := g }) :
    wpAny (model prog w) A (Builtin.«zip.__next__» ⟨[.ref z], []⟩) (fun fin s' => ∃ v, fin = .done (.ret v) ∧ Q v s') E s := by -- zs
  unfold ZAt at Z
  show wpAny _ A (field (.ref z) 2 >>= _) _ E s
  refine wpAny_bind (wpAny_field Z rfl (x := .bool true) rfl ?_)
  show wpAny _ A (field (.ref z) 3 >>= _) _ E s
  refine wpAny_bind (wpAny_field Z rfl (x := .ref t) rfl ?_)
  refine wpAny_bind (wpAny_seqItems T rfl ?_)
  show wpAny _ A (Builtin.SmallTypes.ownedTupleIsFree (.ref z) >>= _) _ E s
  refine wpAny_bind ?_
  unfold Builtin.SmallTypes.ownedTupleIsFree -- it is free
  refine wpAny_bind (wpAny_field Z rfl (x := .none) rfl (wpAny_pure ?_)) -- nobody has it
  simp only [if_true]
  refine wpAny_bind (wpAny_rule (wpAny_bind (wpAny_field Z rfl (x := .ref o) rfl ?_)))
  refine wpAny_bind (wpAny_setField_rec Z (by simp) fun g1 Z1 S1 => ?_)
  replace Z1 : ZAt g1 z t o .ellipsis := Z1
  refine wpAny_bind ?_
  simp only [List.forIn_cons, List.forIn_nil, List.zipIdx_cons, List.zipIdx_nil]
  refine wpAny_bind (wpAny_bind (wpAny_onRaise ?_)) -- zs
  show wpAny _ _ (Builtin.SmallTypes.nextOrEnd (.ref p)) _ _ _
  refine draw_some (P1.extBut S1.extBut D.i1z) (L1.extBut S1.extBut D.l1z) ex fun g2 P12 S2 => ?_
  have O2 : IsPair g2 o c d := S2.extBut _ _ D.TOi1 (S1.extBut _ _ D.TOz O)
  refine wpAny_bind (wpAny_seqItems O2 rfl ?_)
  refine wpAny_bind (wpAny_updateSeq_pair O2 fun g3 O3 S3 => ?_)
  replace O3 : IsPair g3 o x d := O3
  refine wpAny_bind (wpAny_letGo (wpAny_pure ?_)) -- zs
  refine wpAny_bind (wpAny_bind (wpAny_onRaise ?_)) -- zs
  show wpAny _ _ (Builtin.SmallTypes.nextOrEnd (.ref q)) _ _ _
  refine draw_some (((P2.extBut S1.extBut D.i2z).extBut S2.extBut D.i12.symm).extBut S3.extBut D.TOi2.symm) (((L2.extBut S1.extBut D.l2z).extBut S2.extBut D.l2i1).extBut S3.extBut D.l2TO) ey fun g4 P24 S4 => ?_
  have O4 : IsPair g4 o x d := S4.extBut _ _ D.TOi2 O3
  refine wpAny_bind (wpAny_seqItems O4 rfl ?_)
  refine wpAny_bind (wpAny_updateSeq_pair O4 fun g5 O5 S5 => ?_)
  replace O5 : IsPair g5 o x y := O5
  refine wpAny_bind (wpAny_letGo (wpAny_pure (wpAny_pure ?_))) -- zs
  refine wpAny_bind (wpAny_seqItems O5 rfl ?_)
  refine wpAny_bind (wpAny_newTuple ?_) -- zs
  have sz : g5.objs.size = s.heap.objs.size := by rw [S5.1, S4.1, S3.1, S2.1, S1.1]
  have Z5 : ZAt g5 z t o .ellipsis := S5.extBut _ _ D.TOz.symm (S4.extBut _ _ D.i2z.symm (S3.extBut _ _ D.TOz.symm (S2.extBut _ _ D.i1z.symm Z1)))
  have K5 : ∀ u w, u ≠ z → u ≠ o → u ≠ p → u ≠ q → s.heap.get? u = some w → g5.get? u = some w := fun u w u1 u2 u3 u4 e =>
    S5.extBut _ _ u2 (S4.extBut _ _ u4 (S3.extBut _ _ u2 (S2.extBut _ _ u3 (S1.extBut _ _ u1 e))))
  have P15 : g5.IsListIter p l (i + 1) := ((P12.extBut S3.extBut D.TOi1.symm).extBut S4.extBut D.i12).extBut S5.extBut D.TOi1.symm
  have P25 : g5.IsListIter q m (j + 1) := P24.extBut S5.extBut D.TOi2.symm
  have zl : z < g5.objs.size := Heap.lt_size Z5
  show wpAny _ _ (Builtin.SmallTypes.ownedTupleHandOut (.ref z) (.ref g5.objs.size) >>= _) _ _ _
  have Z6 : ZAt (g5.push { cls := .type "tuple", data := .seq #[x, y] }) z t o .ellipsis := Heap.get?_push_of_some _ Z5
  unfold ZAt at Z6
  refine wpAny_bind ?_
  unfold Builtin.SmallTypes.ownedTupleHandOut -- given out
  refine wpAny_bind (wpAny_setField_rec Z6 (by simp) fun g7 Z7 S7 => ?_)
  replace Z7 : ZAt g7 z t o (rawInt g5.objs.size) := Z7
  refine wpAny_setField_rec Z7 (by simp) fun g8 Z8 S8 => ?_
  replace Z8 : ZAt g8 z t o (rawInt g5.objs.size) := Z8
  have up : ∀ u w, u ≠ z → g5.get? u = some w → g8.get? u = some w := fun u w u1 e => S8.extBut _ _ u1 (S7.extBut _ _ u1 (Heap.get?_push_of_some _ e))
  have T8 : IsPair g8 g5.objs.size x y := S8.extBut _ _ (Nat.ne_of_gt zl) (S7.extBut _ _ (Nat.ne_of_gt zl) (Heap.get?_push_size _ rfl))
  have sz8 : g8.objs.size = g5.objs.size + 1 := by rw [S8.1, S7.1, Heap.size_push]
  rw [sz] at Z8 T8 sz8
  refine wpAny_pure ⟨_, rfl, ?_⟩ -- zs
  show Q (.ref g5.objs.size) _
  rw [sz]
  exact k g8 Z8 (up _ _ D.TOz O5) (P15.at fun w e => up _ w D.i1z e) (P25.at fun w e => up _ w D.i2z e) T8 sz8 fun u w u1 u2 u3 u4 e => up u w u1 (K5 u w u1 u2 u3 u4 e)
theorem stop_out {β : Type} {Q : β → Shared → Prop} (hh : A.handled = none) (k : ∀ g e, (∀ u w, s.heap.get? u = some w → g.get? u = some w) → (∃ w, g.get? e = some w ∧ w.cls = .type "StopIteration") → E (.ref e) { s with heap := g }) :
    wpAny (model prog w) A (Builtin.SmallTypes.stopIteration (α := β)) Q E s := by
  show wpAny _ A (newExc (.type "StopIteration") [] >>= _) _ E _
  refine wpAny_bind ?_
  simp only [newTuple, newExc]
  refine wpAny_bind (wpAny_newObj_type ?_ (by size_fits)) -- zs
  refine wpAny_bind (m := firstArgMember _ _) (wpAny_of_eq (a := Value.none) (by first | rfl | (simp only [firstArgMember]; rfl)) ?_) -- zs
  refine wpAny_newObj_type ?_ (by size_fits) -- zs
  simp only [raiseNew]
  refine wpAny_bind (wpAny_handled ?_) -- zs
  rw [hh]
  refine wpAny_bind (wpAny_pure (wpAny_throw ?_)) -- zs
  exact k _ _ (fun u w e => Heap.get?_push_of_some _ (Heap.get?_push_of_some _ e)) ⟨_, Heap.get?_push_size _ rfl, rfl⟩
/-- both at their ends -/
theorem step_end {z t o p q l m : Addr} {i j : Nat} {xs ys : Array Value} {c d : Value} {Q : Fin → Shared → Prop} (hh : A.handled = none) (D : ZipApart z t o p q l m) (Z : ZAt s.heap z t o .none) (T : IsPair s.heap t (.ref p) (.ref q)) (O : IsPair s.heap o c d)
    (P1 : s.heap.IsListIter p l i) (P2 : s.heap.IsListIter q m j) (L1 : s.heap.IsList l xs) (L2 : s.heap.IsList m ys) (ex : xs[i]? = none) (ey : ys[j]? = none)
    (k : ∀ g e, (∀ u w, u ≠ z → u ≠ o → u ≠ p → u ≠ q → s.heap.get? u = some w → g.get? u = some w) → (∃ w, g.get? e = some w ∧ w.cls = .type "StopIteration") → E (.ref e) { s with heap := g }) :
    wpAny (model prog w) A (Builtin.«zip.__next__» ⟨[.ref z], []⟩) Q E s := by -- zs
  unfold ZAt at Z
  show wpAny _ A (field (.ref z) 2 >>= _) _ E s
  refine wpAny_bind (wpAny_field Z rfl (x := .bool true) rfl ?_)
  show wpAny _ A (field (.ref z) 3 >>= _) _ E s
  refine wpAny_bind (wpAny_field Z rfl (x := .ref t) rfl ?_)
  refine wpAny_bind (wpAny_seqItems T rfl ?_)
  show wpAny _ A (Builtin.SmallTypes.ownedTupleIsFree (.ref z) >>= _) _ E s
  refine wpAny_bind ?_
  unfold Builtin.SmallTypes.ownedTupleIsFree -- it is free
  refine wpAny_bind (wpAny_field Z rfl (x := .none) rfl (wpAny_pure ?_)) -- nobody has it
  simp only [if_true]
  refine wpAny_bind (wpAny_rule (wpAny_bind (wpAny_field Z rfl (x := .ref o) rfl ?_)))
  refine wpAny_bind (wpAny_setField_rec Z (by simp) fun g1 Z1 S1 => ?_)
  replace Z1 : ZAt g1 z t o .ellipsis := Z1
  refine wpAny_bind ?_
  simp only [List.forIn_cons, List.forIn_nil, List.zipIdx_cons, List.zipIdx_nil]
  refine wpAny_bind (wpAny_bind (wpAny_onRaise ?_)) -- zs
  show wpAny _ _ (Builtin.SmallTypes.nextOrEnd (.ref p)) _ _ _
  refine draw_none hh (P1.extBut S1.extBut D.i1z) (L1.extBut S1.extBut D.l1z) ex fun g2 S2 => ?_
  have Z2 : ZAt g2 z t o .ellipsis := S2 _ _ D.i1z.symm Z1
  unfold ZAt at Z2
  refine wpAny_bind (wpAny_setField_rec Z2 (by simp) fun g3 Z3 S3 => ?_)
  refine wpAny_bind ?_
  show wpAny _ A (((Builtin.SmallTypes.nextOrEnd (.ref q) >>= _) >>= _) >>= _) _ E _
  refine wpAny_bind (wpAny_bind (wpAny_bind ?_))
  have Q3 := ((P2.extBut S1.extBut D.i2z).extBut S2 D.i12.symm).extBut S3.extBut D.i2z
  have M3 := ((L2.extBut S1.extBut D.l2z).extBut S2 D.l2i1).extBut S3.extBut D.l2z
  refine draw_none hh Q3 M3 ey fun g4 S4 => ?_
  rw [if_neg (by simp)]
  refine wpAny_pure (wpAny_pure ?_) -- zs
  refine wpAny_bind (wpAny_rule ?_) -- zs
  refine stop_out hh fun g5 e S5 he => ?_
  exact k g5 e (fun u w u1 u2 u3 u4 h => S5 _ _ (S4 _ _ u4 (S3.extBut _ _ u1 (S2 _ _ u3 (S1.extBut _ _ u1 h))))) he
theorem next_go {z t o p q l m : Addr} {i j : Nat} {xs ys : Array Value} {x y c d : Value} {Q : Option Value → Shared → Prop} (D : ZipApart z t o p q l m) (Z : ZAt s.heap z t o .none) (T : IsPair s.heap t (.ref p) (.ref q)) (O : IsPair s.heap o c d)
    (P1 : s.heap.IsListIter p l i) (P2 : s.heap.IsListIter q m j) (L1 : s.heap.IsList l xs) (L2 : s.heap.IsList m ys) (ex : xs[i]? = some x) (ey : ys[j]? = some y)
    (k : ∀ g, ZAt g z t o (rawInt s.heap.objs.size) → IsPair g o x y → g.IsListIter p l (i + 1) → g.IsListIter q m (j + 1) → IsPair g s.heap.objs.size x y → g.objs.size = s.heap.objs.size + 1 →
      (∀ u w, u ≠ z → u ≠ o → u ≠ p → u ≠ q → s.heap.get? u = some w → g.get? u = some w) → Q (some (.ref s.heap.objs.size)) { s with heap := g }) :
    wpAny (model prog w) A (pyNext (.ref z)) Q E s := by -- zs
  have ty : s.TypeIs (.ref z) "zip" := ⟨_, Z, rfl⟩
  unfold pyNext
  refine wpAny_bind (wpAny_attempt (wpAny_callSpecial?_slot (name := Str.ofString "__next__") ty F.slot_zip_next (wpAny_call_entry F.slot_zip_next ty F.entry_zip_next ?_ (F.args_zip_next_1 _))))
  exact step_go D Z T O P1 P2 L1 L2 ex ey fun g a1 a2 a3 a4 a5 a6 a7 => wpAny_pure (k g a1 a2 a3 a4 a5 a6 a7)
theorem next_end {z t o p q l m : Addr} {i j : Nat} {xs ys : Array Value} {c d : Value} {Q : Option Value → Shared → Prop} (hh : A.handled = none) (D : ZipApart z t o p q l m) (Z : ZAt s.heap z t o .none) (T : IsPair s.heap t (.ref p) (.ref q)) (O : IsPair s.heap o c d)
    (P1 : s.heap.IsListIter p l i) (P2 : s.heap.IsListIter q m j) (L1 : s.heap.IsList l xs) (L2 : s.heap.IsList m ys) (ex : xs[i]? = none) (ey : ys[j]? = none)
    (k : ∀ g, (∀ u w, u ≠ z → u ≠ o → u ≠ p → u ≠ q → s.heap.get? u = some w → g.get? u = some w) → Q none { s with heap := g }) :
    wpAny (model prog w) A (pyNext (.ref z)) Q E s := by -- zs
  have ty : s.TypeIs (.ref z) "zip" := ⟨_, Z, rfl⟩
  unfold pyNext
  refine wpAny_bind (wpAny_attempt (wpAny_callSpecial?_slot (name := Str.ofString "__next__") ty F.slot_zip_next (wpAny_call_entry F.slot_zip_next ty F.entry_zip_next ?_ (F.args_zip_next_1 _))))
  refine step_end hh D Z T O P1 P2 L1 L2 ex ey fun g e hk he => ?_
  obtain ⟨w1, e1, e2⟩ := he
  exact wpAny_bind (wpAny_isInstance (T := "StopIteration") (b := true) ⟨w1, e1, e2⟩ isSubtype_stop (wpAny_pure (k g hk)))
theorem let_go {elts : List Expr} {x1} {pos : Pos} {z t o T : Addr} {Q : Unit → Shared → Prop} (Z : ZAt s.heap z t o (rawInt T)) (k : ∀ g, ZAt g z t o .none → Heap.SameBut z s.heap g → Q () { s with heap := g }) :
    wpAny (model prog w) A (letOwnedTupleGo (.Tuple elts x1 pos) (.ref z) (.ref T)) Q E s := by -- zs
  unfold ZAt at Z
  unfold letOwnedTupleGo
  refine wpAny_bind (wpAny_load Z ?_)
  show wpAny _ _ (if (["enumerate", "zip", "dict_itemiterator", "dict_reverseitemiterator", "odict_iterator", "itertools.zip_longest", "itertools.pairwise"].contains "zip" && (#[rawInt T, .bool false, .bool true, .ref t, .ref o] : Array Value)[0]? == some (rawInt T)) = true then _ else _) Q E s
  rw [if_pos (by simp)]
  refine wpAny_bind (wpAny_rule ?_) -- zs
  show wpAny _ _ (setField (.ref z) 0 .none) Q E s -- zs
  exact wpAny_setField_rec Z (by simp) fun g Z2 S2 => k g Z2 S2
theorem iter_zip {z t o : Addr} {f : Value} {Q : Value → Shared → Prop} (Z : ZAt s.heap z t o f) (k : Q (.ref z) s) : wpAny (model prog w) A (pyIter (.ref z)) Q E s := by
  have ty : s.TypeIs (.ref z) "zip" := ⟨_, Z, rfl⟩
  refine wpAny_pyIter_slot ty F.slot_zip_iter (wpAny_call_entry F.slot_zip_iter ty F.entry_zip_iter ?_ (F.args_zip_iter_1 _))
  show wpAny _ _ (ret (.ref z)) _ _ s -- zs
  exact wpAny_pure ⟨_, rfl, "zip", _, ty, F.slot_zip_next.lookup, k⟩
end
/-! ### over the hand layer: a turn of a strict zip -/
open L2 PyProof.Rows PySem.Spec
/-- the lists at a and b at each turn; they end together -/
def Itzs (K : PySem.W.Frag) (a b : Addr) : L2.It where
  go := fun i H => ∃ (xs ys : List V) (x y : V), SqL K H a xs ∧ SqL K H b ys ∧ xs[i]? = some x ∧ ys[i]? = some y
  yld := fun i H v H' => ∃ T x y, v = .ref T ∧ H T = none ∧ H' = upd H T (.tup [x, y]) ∧ (∀ xs, SqL K H a xs → xs[i]? = some x) ∧ ∀ ys, SqL K H b ys → ys[i]? = some y
  stop := fun i H => ∃ xs ys : List V, SqL K H a xs ∧ SqL K H b ys ∧ xs.length ≤ i ∧ ys.length ≤ i
theorem turn_zs {P : Program} {w : World} {K : PySem.W.Frag} {els : List Expr} {kk : Nat} {tp : Pos} {a b z t o p q : Addr} (D : ZipApart z t o p q a b) :
    Turn P w K (.Tuple els kk tp) (Itzs K a b) [z, t, o, p, q] z (fun i h => ZAt h z t o .none ∧ IsPair h t (.ref p) (.ref q) ∧ (∃ x y, IsPair h o x y) ∧ h.IsListIter p a i ∧ h.IsListIter q b i) where
  mem := by simp
  obj := fun i h st c hc => by
    obtain ⟨z1, z2, ⟨x, y, z3⟩, ⟨o1, e1, _, d1⟩, ⟨o2, e2, _, d2⟩⟩ := st
    simp only [List.mem_cons, List.not_mem_nil, or_false] at hc
    rcases hc with r | r | r | r | r
    · rw [r]; exact ⟨_, z1, fun v n => nomatch n⟩
    · rw [r]; exact ⟨_, z2, fun v n => nomatch n⟩
    · rw [r]; exact ⟨_, z3, fun v n => nomatch n⟩
    · rw [r]; exact ⟨o1, e1, fun v n => by rw [d1] at n; cases n⟩
    · rw [r]; exact ⟨o2, e2, fun v n => by rw [d2] at n; cases n⟩
  keep := fun i h h' st k => by
    obtain ⟨z1, z2, ⟨x, y, z3⟩, z4, z5⟩ := st
    exact ⟨k z (by simp) _ z1, k t (by simp) _ z2, ⟨x, y, k o (by simp) _ z3⟩, z4.at fun w n => k p (by simp) w n, z5.at fun w n => k q (by simp) w n⟩
  item := by
    intro X hP hw hK hc i pins s σ H E I hf st hg
    subst hP hw hK
    obtain ⟨z1, z2, ⟨x0, y0, z3⟩, z4, z5⟩ := st
    obtain ⟨xs, ys, x, y, qx, qy, gx, gy⟩ := hg
    obtain ⟨its, rv, p1, _⟩ := I.list qx
    obtain ⟨jts, rw2, p2, _⟩ := I.list qy
    obtain ⟨u, hu, ru⟩ := rv.get gx
    obtain ⟨v, hv, rv2⟩ := rw2.get gy
    have zl : z < s.heap.objs.size := Heap.lt_size z1
    refine next_go D z1 z2 z3 z4 z5 p1.isList p2.isList (x := u) (y := v) (by simpa using hu) (by simpa using hv) fun g y1 y3 y4 y5 hT sz hk => ?_
    refine ⟨_, rfl, let_go (s := { s with heap := g }) y1 fun g2 y2 sb => ?_⟩
    have hT2 : g2.get? s.heap.objs.size = some { cls := .type "tuple", data := .seq #[u, v] } := (sb.2 _ (Nat.ne_of_gt zl)).trans hT
    have new : ObjOk X.prog X.w (upd H s.heap.objs.size (.tup [x, y])) g2 s.heap.objs.size (.tup [x, y]) := ⟨by show 2 ≤ sizeLine; decide, [u, v], .cons ru (.cons rv2 .nil), ⟨_, hT2, rfl, _, rfl⟩⟩
    have I1 : Inv X pins σ (upd H s.heap.objs.size (.tup [x, y])) { s with heap := g2 } := I.turnedNew (t' := s.toks) (ch := [z, t, o, p, q]) (fun c w hb e => (sb.2 c (fun r => hb (by simp [r]))).trans (hk c w (fun r => hb (by simp [r])) (fun r => hb (by simp [r])) (fun r => hb (by simp [r])) (fun r => hb (by simp [r])) e)) hf (Nat.le_refl _) new
    refine ⟨.ref s.heap.objs.size, _, I1, rfl, ⟨_, x, y, rfl, I.hok.fresh (Nat.le_refl _), rfl, fun l hl => by rw [I.list_inj hl qx]; exact gx, fun l hl => by rw [I.list_inj hl qy]; exact gy⟩, ⟨y2, (sb.2 _ D.TIz).trans (hk _ _ D.TIz D.TITO D.TIi1 D.TIi2 z2), ⟨u, v, (sb.2 _ D.TOz).trans y3⟩, y4.at fun w n => (sb.2 _ D.i1z).trans n, y5.at fun w n => (sb.2 _ D.i2z).trans n⟩, fun c hcm => ?_⟩
    have hlt : c < s.heap.objs.size := by
      simp only [List.mem_cons, List.not_mem_nil, or_false] at hcm
      rcases hcm with r | r | r | r | r
      · rw [r]; exact zl
      · rw [r]; exact Heap.lt_size z2
      · rw [r]; exact Heap.lt_size z3
      · obtain ⟨_, e1, _⟩ := z4; rw [r]; exact Heap.lt_size e1
      · obtain ⟨_, e2, _⟩ := z5; rw [r]; exact Heap.lt_size e2
    rw [upd_ne (Nat.ne_of_lt hlt)]
    exact (hf c hcm).1
  done := by
    intro X hP hw hK hc i pins s σ H E I hf st hg
    subst hP hw hK
    obtain ⟨z1, z2, ⟨x0, y0, z3⟩, z4, z5⟩ := st
    obtain ⟨xs, ys, qx, qy, e1, e2⟩ := hg
    obtain ⟨its, rv, p1, _⟩ := I.list qx
    obtain ⟨jts, rw2, p2, _⟩ := I.list qy
    have l1 := rv.length
    have l2 := rw2.length
    refine next_end (I.ok.hd hc) D z1 z2 z3 z4 z5 p1.isList p2.isList (by simp; omega) (by simp; omega) fun g hk => ⟨rfl, I.turnedL (t' := s.toks) (ch := [z, t, o, p, q]) (fun c w hb e => hk c w (fun r => hb (by simp [r])) (fun r => hb (by simp [r])) (fun r => hb (by simp [r])) (fun r => hb (by simp [r])) e) hf⟩
  self := fun A i s Q E st h => iter_zip st.1 h
end ZS
/-! zip(a, b, strict=True): made -/
namespace ZS
open PySem
open Sem (wp)
theorem t_call (a b : Value) : checkTypeCall "zip" ⟨[a, b], [(Str.ofString "strict", .bool true)]⟩ = pure () := by kernel_rfl
theorem t_new (a b : Value) : checkBuiltinCall "zip.__new__" ⟨[.type "zip", a, b], [(Str.ofString "strict", .bool true)]⟩ = pure () := by kernel_rfl
theorem t_init (z a b : Value) : argsOk "object.__init__" ⟨[z, a, b], [(Str.ofString "strict", .bool true)]⟩ := by unfold argsOk; kernel_rfl
abbrev H5 (h : Heap) (l m : Addr) : Heap := (zipH4 h l m).push { cls := .type "zip", data := .fields #[.none, .bool false, .bool true, .ref (zipH2 h l m).objs.size, .ref (zipH3 h l m).objs.size] }
theorem meets (l m : Addr) (xs ys : Array Value) :
    Meets (Builtin.«zip.__new__» ⟨[.type "zip", .ref l, .ref m], [(Str.ofString "strict", .bool true)]⟩) (fun _ R s => s.heap.IsList l xs ∧ s.heap.IsList m ys ∧
      R (.ok (.ret (.ref (zipH4 s.heap l m).objs.size))) { s with heap := H5 s.heap l m }) :=
  .of_wp fun prog w A R s h => by -- zs
    obtain ⟨hp, g, d, tk, os⟩ := s
    obtain ⟨h1, h2, h⟩ := h
    have hsub := sub_zip
    have e1 : (Str.ofString "strict" == ("strict" : Str)) = true := by decide +kernel
    have e2 : (Str.ofString "strict" != ("strict" : Str)) = false := by decide +kernel
    have e4 : (("strict" : Str) == Str.ofString "strict") = true := by decide +kernel
    have L1 : Heap.IsList (Shared.heap ⟨hp, g, d, tk, os⟩) l xs := h1
    have L2 : Heap.IsList (Shared.heap ⟨hp.push { cls := .type "list_iterator", data := .fields #[.ref l, .int 0 0] }, g, d, tk, os⟩) m ys := Heap.IsList.push h2 _
    wp_walk using wpAny_pyIter_list L1, wpAny_pyIter_list L2
    exact ⟨_, rfl, h⟩
section
variable {prog : Program} {w : World} {A : Around} {E : Value → Shared → Prop} {s : Shared}
theorem made {l m : Addr} {xs ys : Array Value} {Q : Value → Shared → Prop} (h1 : s.heap.IsList l xs) (h2 : s.heap.IsList m ys)
    (k : ∀ g, ZAt g (s.heap.objs.size + 4) (s.heap.objs.size + 2) (s.heap.objs.size + 3) .none → IsPair g (s.heap.objs.size + 2) (.ref s.heap.objs.size) (.ref (s.heap.objs.size + 1)) →
      IsPair g (s.heap.objs.size + 3) .none .none → g.IsListIter s.heap.objs.size l 0 → g.IsListIter (s.heap.objs.size + 1) m 0 → (∀ c o, s.heap.get? c = some o → g.get? c = some o) → Q (.ref (s.heap.objs.size + 4)) { s with heap := g }) :
    wpAny (model prog w) A (call (.type "zip") [.ref l, .ref m] [(Str.ofString "strict", .bool true)]) Q E s := by -- zs
  refine callType_newKw F.called_zip (by decide) (t_call _ _) (t_new _ _) (fun o => t_init o _ _) F.entry_zip_new (meets l m xs ys) ⟨h1, h2, ?_⟩
  have n1 : (zipH1 s.heap l).objs.size = s.heap.objs.size + 1 := Heap.size_push ..
  have n2 : (zipH2 s.heap l m).objs.size = s.heap.objs.size + 2 := by rw [Heap.size_push, n1]
  have n3 : (zipH3 s.heap l m).objs.size = s.heap.objs.size + 3 := by rw [Heap.size_push, n2]
  have n4 : (zipH4 s.heap l m).objs.size = s.heap.objs.size + 4 := by rw [Heap.size_push, n3]
  have e5 : (H5 s.heap l m).get? (zipH4 s.heap l m).objs.size = some _ := Heap.get?_push_size _ rfl
  have e4 : (H5 s.heap l m).get? (zipH3 s.heap l m).objs.size = some _ := Heap.get?_push_of_some _ (Heap.get?_push_size _ rfl)
  have up : ∀ c o, (zipH3 s.heap l m).get? c = some o → (H5 s.heap l m).get? c = some o := fun c o e => Heap.get?_push_of_some _ (Heap.get?_push_of_some _ e)
  have e3 : (H5 s.heap l m).get? (zipH2 s.heap l m).objs.size = some _ := up _ _ (Heap.get?_push_size _ rfl)
  have e2 : (H5 s.heap l m).get? (zipH1 s.heap l).objs.size = some _ := up _ _ (Heap.get?_push_of_some _ (Heap.get?_push_size _ rfl))
  have e1 : (H5 s.heap l m).get? s.heap.objs.size = some _ := up _ _ (Heap.get?_push_of_some _ (Heap.get?_push_of_some _ (Heap.get?_push_size _ rfl)))
  show _ ∧ _
  rw [n2, n3, n4] at e5
  rw [n3] at e4
  rw [n1, n2] at e3
  rw [n1] at e2
  rw [n4]
  exact ⟨⟨_, e5, rfl⟩, k _ e5 e3 e4 ⟨_, e1, rfl, rfl⟩ ⟨_, e2, rfl, rfl⟩ fun c o x => up _ _ (Heap.get?_push_of_some _ (Heap.get?_push_of_some _ (Heap.get?_push_of_some _ x)))⟩
end
section
variable {M : Model} {A : Around} {E : Value → Shared → Prop} {s : Shared}
open PyProof.Rows
theorem cw_typeK {pos : Pos} {T : String} {args : List (Bool × Sem Value)} {kws : List (Option Str × Sem Value)} {Q : Value → Shared → Prop} (h1 : args.any (·.1) = false) (h2 : kws.any (·.1.isNone) = false)
    (h : wpAny M A (evalArgs (.type T) true args kws) (fun a s1 => wpAny M A (call (.type T) a.pos a.kw) Q E s1) E s) : wpAny M A (callWith pos (.type T) [] args kws) Q E s := by
  unfold callWith
  refine wpAny_bind (wpAny_holding (wpAny_mono h (fun a s1 k => wpAny_bind (wpAny_standAt ?_)) fun _ _ x => x)) -- zs
  simp only [h1, h2, Bool.or_false]
  refine wpAny_bind (wpAny_pure ?_) -- zs
  exact wpAny_bind (wpAny_mono k (fun r s2 hr => wpAny_bind (wpAny_holding (wpAny_point (wpAny_pure hr)))) fun _ _ x => x) -- zs
end
open L2 PyProof.Rows PySem.Spec
theorem pi_zs {X : Cx} {e e2 : Expr} {ta : TA} {p pos tp kp cp : Pos} {els : List Expr} {kk j : Nat} (hg : Gl X "zip") (hm : X.mg "zip" = none) (ha : PA X [e, e2] ta)
    (hs : starEach [e, e2] X.env = (false, eval e X.env) :: starEach [e2] X.env := by rfl) (hpl : (backTo pos (starEach [e2] X.env)).any (·.1) = false := by rfl) :
    PI X (.Tuple els kk tp) (.Call (.Name "zip" p) [e, e2] [{ arg := some "strict", value := .Constant (.bool true) j cp, pos := kp }] pos)
      (fun σ H R => ta σ H fun vs H1 => ∃ a b xs ys, vs = [.ref a, .ref b] ∧ SqL X.K H1 a xs ∧ SqL X.K H1 b ys ∧ R (Itzs X.K a b) H1) := by
  refine ⟨fun pins s σ H R I h => ?_⟩
  refine wpAny_Call_Name_kw (ld_blt I hg hm boot_zip ?_)
  refine cw_typeK (by rw [hs]; exact hpl) rfl ?_
  rw [hs]
  refine evalArgs_kwB rfl ?_
  have run := ha.run pos pins s σ H _ I h
  rw [hs] at run
  refine thn run fun us s1 ⟨vs, H1, I1, r1, q1⟩ => ?_
  refine kws_cons (Constant_bool (kws_nil ?_))
  obtain ⟨a, b, xs, ys, ex, hq, hq2, q⟩ := q1
  subst ex
  cases r1 with
  | cons r rr =>
    cases rr with
    | cons r' rr =>
      cases rr
      cases r
      cases r'
      obtain ⟨its, rv, p1, _⟩ := I1.list hq
      obtain ⟨jts, rw2, p2, _⟩ := I1.list hq2
      refine made p1.isList p2.isList fun g hz hT hO i1 i2 hk => iter_zip hz ?_
      have I2 : Inv X pins σ H1 { s1 with heap := g } := I1.kept (t' := s1.toks) hk
      refine ⟨s1.heap.objs.size + 4, [s1.heap.objs.size + 4, s1.heap.objs.size + 2, s1.heap.objs.size + 3, s1.heap.objs.size, s1.heap.objs.size + 1], _, _, H1, rfl, I2, turn_zs (PySem.W.ktu_apart s1.heap.objs.size a b p1.lt p2.lt), ⟨hz, hT, ⟨_, _, hO⟩, i1, i2⟩, fun c hc => ?_, q⟩
      have le : s1.heap.objs.size ≤ c := by
        simp only [List.mem_cons, List.not_mem_nil, or_false] at hc
        rcases hc with z | z | z | z | z <;> (rw [z]; simp [Nat.le_add_right])
      exact I1.fpOk le (I1.hok.fresh le)
end ZS
namespace DL
open PySem L2
section
variable {X : Cx} {W : WX}
/-! ### a strict zip: of two lists of one length -/
theorem jZS {K : PySem.W.Frag} {a b : Addr} {d e : D} {ds es : List D} (hK : K = X.K) (fd : fixed d = true) (fe : fixed e = true) {μ0 : Cells} (hd : view d μ0 = some ds) (he : view e μ0 = some es) (hl : ds.length = es.length) :
    JOk X (ZS.Itzs K a b) [(.ref a, .val d), (.ref b, .val e)] (.fix (List.zipWith (fun x y => .tup [x, y]) ds es)) where
  np := rfl
  stop := fun Γ cs H σ ρ μ T Fs Ft i hK' hM g hi _ => by
    obtain ⟨a', xs, ea, hq, rs⟩ := g.view (v := .ref a) (by simp) (view_fix (μ := μ) fd hd)
    obtain ⟨b', ys, eb, hq2, rs2⟩ := g.view (v := .ref b) (by simp) (view_fix (μ := μ) fe he)
    cases ea; cases eb
    refine ⟨xs, ys, by rw [hK, ← hK']; exact hq, by rw [hK, ← hK']; exact hq2, ?_⟩
    have hi' : (List.zipWith (fun x y => D.tup [x, y]) ds es)[i]? = none := hi
    have := List.getElem?_eq_none_iff.mp hi'
    rw [List.length_zipWith] at this
    rw [rs.length, rs2.length]
    omega
  go := fun Γ cs H σ ρ μ T Fs Ft i x hK' hM g hi => by
    obtain ⟨a', xs, ea, hq, rs⟩ := g.view (v := .ref a) (by simp) (view_fix (μ := μ) fd hd)
    obtain ⟨b', ys, eb, hq2, rs2⟩ := g.view (v := .ref b) (by simp) (view_fix (μ := μ) fe he)
    cases ea; cases eb
    have hi' : (List.zipWith (fun x y => D.tup [x, y]) ds es)[i]? = some x := hi
    rw [List.getElem?_zipWith] at hi'
    split at hi'
    · rename_i y z h1 h2
      cases hi'
      obtain ⟨v, hv, rv⟩ := rs.get h1
      obtain ⟨w, hw, rw'⟩ := rs2.get h2
      refine ⟨⟨xs, ys, v, w, by rw [hK, ← hK']; exact hq, by rw [hK, ← hK']; exact hq2, hv, hw⟩, fun x H' yy => ?_⟩
      obtain ⟨p, v', w', rfl, hp, rfl, h3, h4⟩ := yy
      have q1 := h3 xs (by rw [hK, ← hK']; exact hq)
      have q2 := h4 ys (by rw [hK, ← hK']; exact hq2)
      rw [hv] at q1; rw [hw] at q2
      cases q1; cases q2
      exact ⟨Fs, Ft, g.pair hp rv rw'⟩
    · cases hi'
/-- .. with cells among them: they end together, or it is stuck -/
def zsF (d e : D) (μ : Cells) (_ : Nat) : Bool :=
  match view d μ, view e μ with
  | some xs, some ys => xs.length == ys.length
  | _, _ => false
theorem jZSd {K : PySem.W.Frag} {a b : Addr} {d e : D} {n : Nat} {μ0 : Cells} {ds0 es0 : List D} (hK : K = X.K) (hd : view d μ0 = some ds0) (he : view e μ0 = some es0) :
    JOk X (ZS.Itzs K a b) [(.ref a, .val d), (.ref b, .val e)] (.str n (zipIt d e) (zsF d e)) where
  np := rfl
  stop := fun Γ cs H σ ρ μ T Fs Ft i hK' hM g hi hz => by
    obtain ⟨ds, e1⟩ := g.viewS (v := .ref a) (by simp) (fun μ0 h => view_any h) hd
    obtain ⟨es, e2⟩ := g.viewS (v := .ref b) (by simp) (fun μ0 h => view_any h) he
    obtain ⟨a', xs, ea, hq, rs⟩ := g.view (v := .ref a) (by simp) e1
    obtain ⟨b', ys, eb, hq2, rs2⟩ := g.view (v := .ref b) (by simp) e2
    cases ea; cases eb
    refine ⟨xs, ys, by rw [hK, ← hK']; exact hq, by rw [hK, ← hK']; exact hq2, ?_⟩
    have hi' : zipIt d e μ i = none := hi
    have hz' : zsF d e μ i = true := hz
    unfold zipIt at hi'
    unfold zsF at hz'
    rw [e1, e2] at hi' hz'
    dsimp only at hi' hz'
    have hl : ds.length = es.length := by simpa using hz'
    rw [rs.length, rs2.length]
    split at hi'
    · cases hi'
    · rename_i hn
      by_cases h1 : i < ds.length
      · by_cases h2 : i < es.length
        · exact absurd (List.getElem?_eq_getElem h2) (hn _ _ (List.getElem?_eq_getElem h1))
        · omega
      · omega
  go := fun Γ cs H σ ρ μ T Fs Ft i x hK' hM g hi => by
    obtain ⟨ds, e1⟩ := g.viewS (v := .ref a) (by simp) (fun μ0 h => view_any h) hd
    obtain ⟨es, e2⟩ := g.viewS (v := .ref b) (by simp) (fun μ0 h => view_any h) he
    obtain ⟨a', xs, ea, hq, rs⟩ := g.view (v := .ref a) (by simp) e1
    obtain ⟨b', ys, eb, hq2, rs2⟩ := g.view (v := .ref b) (by simp) e2
    cases ea; cases eb
    have hi' : zipIt d e μ i = some x := hi
    unfold zipIt at hi'
    rw [e1, e2] at hi'
    dsimp only at hi'
    split at hi'
    · rename_i y z h1 h2
      cases hi'
      obtain ⟨v, hv, rv⟩ := rs.get h1
      obtain ⟨w, hw, rw'⟩ := rs2.get h2
      refine ⟨⟨xs, ys, v, w, by rw [hK, ← hK']; exact hq, by rw [hK, ← hK']; exact hq2, hv, hw⟩, fun x H' yy => ?_⟩
      obtain ⟨p, v', w', rfl, hp, rfl, h3, h4⟩ := yy
      have q1 := h3 xs (by rw [hK, ← hK']; exact hq)
      have q2 := h4 ys (by rw [hK, ← hK']; exact hq2)
      rw [hv] at q1; rw [hw] at q2
      cases q1; cases q2
      exact ⟨Fs, Ft, g.pair hp rv rw'⟩
    · cases hi'
def zsS (d e : D) (μ : Cells) : Option Src :=
  match view d μ, view e μ with
  | some xs, some ys => if fixed d && fixed e && xs.length == ys.length then some (.fix (List.zipWith (fun x y => .tup [x, y]) xs ys)) else some (.str (min xs.length ys.length + 1) (zipIt d e) (zsF d e))
  | _, _ => none
def itZS (m : M (List It)) : M Src := bnd m fun l s =>
  match satAll s.ρ l with
  | some [d, e] => match zsS d e s.μ with
    | some src => some (.ok src, s)
    | none => none
  | _ => none
theorem zs_go {m : M (List It)} {σ : St} {H : Hp} {R : L2.It → Hp → Prop} (h : TIt X W (itZS m) σ H R) :
    (TAs X W m) σ H fun vs H1 => ∃ a b xs ys, vs = [.ref a, .ref b] ∧ SqL X.K H1 a xs ∧ SqL X.K H1 b ys ∧ R (ZS.Itzs X.K a b) H1 := by
  obtain ⟨Γ, cs, s, T, Fs, Ft, hK, hM, g, a⟩ := h
  refine TAs.go hK hM g (a.bnd.mono fun l s1 a1 vs H1 cs1 Fs1 Ft1 hl g1 => ?_)
  split at a1
  · rename_i d e hs
    split at a1
    · rename_i src hz
      obtain ⟨F2, g2, r, hf, _⟩ := Good.satAll hl g1 hs
      simp only [D.frees, Bool.and_eq_true, Bool.and_true] at hf
      obtain ⟨v, w, f1, f2, rfl, hff, r1, r2⟩ := reps2 r
      obtain ⟨rfl, rfl⟩ := List.append_eq_nil_iff.mp hff.symm
      have g3 : Good Γ cs1 H1 σ s1.ρ s1.μ ((v, .val d) :: (w, .val e) :: T) Fs1 F2 := g2.pushs0 (vs := [v, w]) (ds := [d, e]) r
      unfold zsS at hz
      split at hz
      · rename_i xs ys h1 h2
        split at hz
        · rename_i hc
          simp only [Bool.and_eq_true, beq_iff_eq] at hc
          cases hz
          obtain ⟨a, us, rfl, hq, _⟩ := g3.view (v := v) (d := d) (by simp) h1
          obtain ⟨b, ws, rfl, hq2, _⟩ := g3.view (v := w) (d := e) (by simp) h2
          exact ⟨a, b, us, ws, rfl, by rw [← hK]; exact hq, by rw [← hK]; exact hq2, a1 _ [(.ref a, .val d), (.ref b, .val e)] H1 cs1 Fs1 F2 (jZS rfl hc.1.1 hc.1.2 h1 h2 hc.2) g3⟩
        · cases hz
          obtain ⟨a, us, rfl, hq, _⟩ := g3.view (v := v) (d := d) (by simp) h1
          obtain ⟨b, ws, rfl, hq2, _⟩ := g3.view (v := w) (d := e) (by simp) h2
          exact ⟨a, b, us, ws, rfl, by rw [← hK]; exact hq, by rw [← hK]; exact hq2, a1 _ [(.ref a, .val d), (.ref b, .val e)] H1 cs1 Fs1 F2 (jZSd rfl h1 h2) g3⟩
      · cases hz
    · exact a1.elim
  · exact a1.elim
theorem iZS {e e2 : Expr} {m : M (List It)} {p pos tp kp cp : Pos} {els : List Expr} {kk j} (hg : Gl X "zip") (hm : X.mg "zip" = none) (ha : PA X [e, e2] (TAs X W m))
    (hs : starEach [e, e2] X.env = (false, eval e X.env) :: starEach [e2] X.env := by rfl) (hpl : (backTo pos (starEach [e2] X.env)).any (·.1) = false := by rfl) :
    PI X (.Tuple els kk tp) (.Call (.Name "zip" p) [e, e2] [{ arg := some "strict", value := .Constant (.bool true) j cp, pos := kp }] pos) (TIt X W (itZS m)) :=
  PI.imp (ZS.pi_zs hg hm ha hs hpl) fun σ H R q => zs_go q
end
end DL
namespace DL
open PySem L2
/-! ### comprehensions with two fors -/
/-- the inner for, on what the outer one has got -/
def comp2I (own1 : List Nat) (f1 : Tgt) (t1 : M Bool) (e : M It) (src : Src) (acc : List D) (s : Sg) : Option (List D × Sg) :=
  match src with
  | .fix items => if acc.length + items.length ≤ sizeLine then compL own1 f1 t1 e items acc ⟨wipeE s.ρ own1, s.μ⟩ else none
  | .dyn n it => if acc.length + n ≤ sizeLine then compD own1 f1 t1 e it n 0 acc ⟨wipeE s.ρ own1, s.μ⟩ else none
  | .str _ _ _ => none
def comp2L (own own1 : List Nat) (f : Tgt) (t : M Bool) (m1 : M Src) (f1 : Tgt) (t1 : M Bool) (e : M It) : List D → List D → Sg → Option (List D × Sg)
  | [], acc, s => some (acc, s)
  | d :: r, acc, s => match f d s with
    | none => none
    | some s1 => match t s1 with
      | some (.ok false, s2) => comp2L own own1 f t m1 f1 t1 e r acc ⟨wipeE s2.ρ own, s2.μ⟩
      | some (.ok true, s2) => match m1 s2 with
        | some (.ok src, s3) => match comp2I own1 f1 t1 e src acc s3 with
          | some (acc', s4) => comp2L own own1 f t m1 f1 t1 e r acc' ⟨wipeE s4.ρ own, s4.μ⟩
          | none => none
        | _ => none
      | _ => none
def comp2 (own own1 : List Nat) (m : M Src) (f : Tgt) (t : M Bool) (m1 : M Src) (f1 : Tgt) (t1 : M Bool) (e : M It) : M It := bnd m fun src s =>
  match src with
  | .fix items => match comp2L own own1 f t m1 f1 t1 e items [] ⟨wipeE s.ρ own, s.μ⟩ with
      | some (acc, s') => some (.ok (.val (.lst true acc)), s')
      | none => none
  | _ => none
section
variable {X : Cx} {W : WX}
theorem wipe_get {σ : St} {vs : List Nat} (i : Nat) : (wipe σ vs)[i]? = if i ∈ vs then (if i < σ.length then some none else none) else σ[i]? := by
  by_cases hi : i ∈ vs
  · rw [if_pos hi]
    cases q : (wipe σ vs)[i]? with
    | none =>
      have : (wipe σ vs).length ≤ i := by simpa using q
      rw [wipe_length] at this
      rw [if_neg (by omega)]
    | some x =>
      obtain ⟨hlt, _⟩ := List.getElem?_eq_some_iff.mp q
      rw [wipe_length] at hlt
      rw [if_pos hlt]
      cases x with
      | none => rfl
      | some v => exact absurd hi (wipe_some q).2
  · rw [if_neg hi, wipe_out hi]
theorem wipe_wipe {σ : St} {vs ws : List Nat} (h : ∀ j ∈ ws, j ∈ vs) : wipe (wipe σ ws) vs = wipe σ vs := by
  apply List.ext_getElem?
  intro i
  rw [wipe_get, wipe_get, wipe_length, wipe_get]
  by_cases hi : i ∈ vs
  · rw [if_pos hi, if_pos hi]
  · rw [if_neg hi, if_neg hi, if_neg (fun q => hi (h i q))]
/-- a turn of a comprehension -/
theorem comp_turn {Γ : Gm} {own ws : List Nat} {f : Tgt} {t : M Bool} {e : M It} {σ : St} {U V : Tmp} {D : Addr} (hK : Γ.K = X.K) (hM : Γ.mg = X.mg) (nU : noPk U = true) (nV : noPk V = true) (hw' : ∀ j ∈ ws, j ∈ own)
    (cont : List DL.D → Sg → Option (List DL.D × Sg)) (accF : List DL.D) (sF : Sg) (Nx : Hp → Prop) (cs Fs Ft : List Addr) (H : Hp) (ρ0 : Env) (μ : Cells) (acc : List DL.D) (d : DL.D) (hlen : acc.length < sizeLine)
    (hc : (match f d ⟨wipeE ρ0 own, μ⟩ with
        | none => none
        | some s1 => match t s1 with
          | some (.ok false, s2) => cont acc ⟨wipeE s2.ρ own, s2.μ⟩
          | some (.ok true, s2) => match e s2 with
            | some (.ok (.val y), s3) => cont (acc ++ [y]) ⟨wipeE s3.ρ own, s3.μ⟩
            | _ => none
          | _ => none) = some (accF, sF))
    (hN : ∀ (H' : Hp) (cs' Fs' Ft' : List Addr) (ρ1 : Env) (μ1 : Cells) (acc' : List DL.D), acc'.length ≤ acc.length + 1 → Good Γ cs' H' (wipe σ own) (wipeE ρ1 own) μ1 (U ++ ((.ref D, .val (.lst true acc')) :: V)) Fs' Ft' → cont acc' ⟨wipeE ρ1 own, μ1⟩ = some (accF, sF) → Nx H') :
      ∀ x H', (∃ Fs' Ft', Good Γ cs H' (wipe σ own) (wipeE ρ0 own) μ ((x, .val d) :: (U ++ ((.ref D, .val (.lst true acc)) :: V))) Fs' Ft') →
        TGt X ws f x (wipe σ own) H' fun σ2 H2 => wipe σ2 own = wipe σ own ∧ TB X (fun _ _ _ _ => False) t σ2 H2 fun b H3 =>
          if b = true then TD X (fun _ _ _ _ => False) e σ2 H3 fun y H4 => ∃ acc, H4 D = some (.lst acc) ∧ acc.length < sizeLine ∧ Nx (upd H4 D (.lst (acc ++ [y]))) else Nx H3 := by
    intro x H' ⟨F1, F2, g1⟩
    have nT : noPk (U ++ ((.ref D, .val (.lst true acc)) :: V)) = true := noPk_app nU nV
    cases e1 : f d ⟨wipeE ρ0 own, μ⟩ with
    | none => rw [e1] at hc; cases hc
    | some s2 =>
      rw [e1] at hc
      dsimp only at hc
      refine ⟨Γ, cs, ⟨wipeE ρ0 own, μ⟩, s2, _, d, F1, F2, hK, hM, nT, g1, e1, fun σ2 H2 cs2 F3 F4 g2 l2 n2 => ?_⟩
      have hwp : wipe σ2 own = wipe σ own := wipe_set (by rw [l2, wipe_length]) n2 hw'
      have back : ∀ {H3 : Hp} {cs3 F5 F6 : List Addr} {s3 : Sg} {acc' : List DL.D}, Good Γ cs3 H3 σ2 s3.ρ s3.μ (U ++ ((.ref D, .val (.lst true acc')) :: V)) F5 F6 →
          ∃ F7, Good Γ cs3 H3 (wipe σ own) (wipeE s3.ρ own) s3.μ (U ++ ((.ref D, .val (.lst true acc')) :: V)) F7 F6 := fun {H3 cs3 F5 F6 s3 acc'} g => by
        obtain ⟨F7, g7⟩ := g.wipe own
        rw [hwp, strip_noPk (noPk_app nU (show noPk ((.ref D, .val (.lst true acc')) :: V) = true from nV))] at g7
        exact ⟨F7, g7⟩
      refine ⟨hwp, TB.go hK hM g2 ?_⟩
      cases e2 : t s2 with
      | none => rw [e2] at hc; cases hc
      | some p =>
        obtain ⟨r, s3⟩ := p
        rw [e2] at hc
        cases r with
        | err c v => cases hc
        | ok b =>
          intro H3 cs3 F5 F6 g3
          cases b with
          | false =>
            rw [if_neg Bool.false_ne_true]
            obtain ⟨F7, g7⟩ := back g3
            exact hN H3 cs3 F7 F6 s3.ρ s3.μ acc (by omega) g7 hc
          | true =>
            rw [if_pos rfl]
            dsimp only at hc
            refine TD.go hK hM g3 ?_
            cases e3 : e s3 with
            | none => rw [e3] at hc; cases hc
            | some p =>
              obtain ⟨r, s4⟩ := p
              rw [e3] at hc
              cases r with
              | err c v => cases hc
              | ok it =>
                cases it with
                | pk j => cases hc
                | val dy =>
                  intro y H4 cs4 F7 F8 g4
                  obtain ⟨F9, g5⟩ := g4.perm (U := (y, .val dy) :: (.ref D, .val (.lst true acc)) :: (U ++ V)) (List.Perm.cons _ List.perm_middle)
                  obtain ⟨xs, hx, hxl, F10, g6⟩ := g5.app
                  refine ⟨xs, hx, by omega, ?_⟩
                  obtain ⟨F11, g7⟩ := g6.perm (U := U ++ ((.ref D, .val (.lst true (acc ++ [dy]))) :: V)) List.perm_middle.symm
                  obtain ⟨F12, g8⟩ := back g7
                  exact hN _ cs4 F12 F11 s4.ρ s4.μ (acc ++ [dy]) (by rw [List.length_append]; simp) g8 hc
theorem comp2_go {own own1 : List Nat} {m m1 : M Src} {ws ws1 : List Nat} {f f1 : Tgt} {t t1 : M Bool} {e : M It} {σ : St} {H : Hp} {Q : VK} (hw : ws.all (own.contains ·) = true) (hw1 : ws1.all (own1.contains ·) = true) (ho : own1.all (own.contains ·) = true)
    (h : TD X W (comp2 own own1 m f t m1 f1 t1 e) σ H Q) : tLc2 (TIt X W m) (TGt X ws f) (TB X (fun _ _ _ _ => False) t) (TIt X (fun _ _ _ _ => False) m1) (TGt X ws1 f1) (TB X (fun _ _ _ _ => False) t1) (TD X (fun _ _ _ _ => False) e) own own1 σ H Q := by
  obtain ⟨Γ, cs, s, T, Fs, Ft, hK, hM, g, a⟩ := h
  refine ⟨Γ, cs, s, T, Fs, Ft, hK, hM, g, a.bnd.mono fun src s1 a1 J U H1 cs1 Fs1 Ft1 jo g1 D hD => ?_⟩
  have sub : ∀ {a b : List Nat}, a.all (b.contains ·) = true → ∀ j ∈ a, j ∈ b := fun {a b} h j hj => by
    have := List.all_eq_true.mp h j hj
    simpa using this
  have hw' := sub hw
  have hw1' := sub hw1
  have ho' := sub ho
  have pk := pkOk_app g1.tm.pkOk jo.np
  obtain ⟨F2, g2⟩ := g1.wipe own
  rw [strip_app, strip_noPk jo.np] at g2
  obtain ⟨F3, g3⟩ := Good.allocL (vs := []) (ds := []) (T := U ++ strip T) g2 rfl hD
  obtain ⟨F4, g4⟩ := g3.perm (U := U ++ ((.ref D, .val (.lst true [])) :: strip T)) List.perm_middle.symm
  have fin : ∀ {cs Fs Ft : List Addr} {H : Hp} {ρ0 : Env} {μ : Cells} {acc : List DL.D}, Good Γ cs H (wipe σ own) (wipeE ρ0 own) μ (U ++ ((.ref D, .val (.lst true acc)) :: strip T)) Fs Ft → (∀ v H' cs' Fs' Ft', Good Γ cs' H' σ (wipeE ρ0 own) μ ((v, .val (.lst true acc)) :: T) Fs' Ft' → Q v H') → Q (.ref D) H := fun {cs Fs Ft H ρ0 μ acc} g a1 => by
    obtain ⟨F5, g5, _⟩ := g.popU
    exact a1 _ H cs Fs F5 (Good.unwipe (T := (.ref D, .val (.lst true acc)) :: T) g5 pk)
  cases src with
  | dyn n it => exact a1.elim
  | str n it fn => exact a1.elim
  | fix items =>
    dsimp only at a1
    cases e0 : comp2L own own1 f t m1 f1 t1 e items [] ⟨wipeE s1.ρ own, s1.μ⟩ with
    | none => rw [e0] at a1; exact a1.elim
    | some p =>
      obtain ⟨accF, sF⟩ := p
      rw [e0] at a1
      refine ⟨fun i k H => k = items.length - i ∧ ∃ (cs Fs Ft : List Addr) (ρ0 : Env) (μ : Cells) (acc : List DL.D), Good Γ cs H (wipe σ own) (wipeE ρ0 own) μ (U ++ ((.ref D, .val (.lst true acc)) :: strip T)) Fs Ft ∧
        comp2L own own1 f t m1 f1 t1 e (items.drop i) acc ⟨wipeE ρ0 own, μ⟩ = some (accF, sF), ⟨_, rfl, cs1, F2, F4, s1.ρ, s1.μ, [], g4, e0⟩, ?_⟩
      rintro i k H ⟨rfl, cs, Fs, Ft, ρ0, μ, acc, g, hc⟩
      cases q : items[i]? with
      | none =>
        have hl : items.length ≤ i := by simpa using q
        refine .inl ⟨jo.stop Γ cs H _ _ _ _ Fs Ft i hK hM g q rfl, ?_⟩
        rw [List.drop_eq_nil_of_le hl] at hc
        simp only [comp2L, Option.some.injEq, Prod.mk.injEq] at hc
        obtain ⟨rfl, rfl⟩ := hc
        exact fin g a1
      | some d =>
        obtain ⟨hlt, he⟩ := List.getElem?_eq_some_iff.mp q
        obtain ⟨hgo, hy⟩ := jo.go Γ cs H _ _ _ _ Fs Ft i d hK hM g q
        rw [List.drop_eq_getElem_cons hlt, he] at hc
        simp only [comp2L] at hc
        refine .inr ⟨hgo, (fun H => ∃ (cs Fs Ft : List Addr) (ρ0 : Env) (μ : Cells) (acc : List DL.D), Good Γ cs H (wipe σ own) (wipeE ρ0 own) μ (U ++ ((.ref D, .val (.lst true acc)) :: strip T)) Fs Ft ∧
          comp2L own own1 f t m1 f1 t1 e (items.drop (i + 1)) acc ⟨wipeE ρ0 own, μ⟩ = some (accF, sF)), fun H' h => ⟨items.length - (i + 1), by omega, rfl, h⟩, fun x H' y => ?_⟩
        obtain ⟨F5, F6, g5⟩ := hy x H' y
        have nT : noPk (U ++ ((.ref D, .val (.lst true acc)) :: strip T)) = true := noPk_app jo.np (noPk_strip T)
        cases e1 : f d ⟨wipeE ρ0 own, μ⟩ with
        | none => rw [e1] at hc; cases hc
        | some s2 =>
          rw [e1] at hc
          dsimp only at hc
          refine ⟨Γ, cs, ⟨wipeE ρ0 own, μ⟩, s2, _, d, F5, F6, hK, hM, nT, g5, e1, fun σ2 H2 cs2 F7 F8 g6 l2 n2 => ?_⟩
          have hwp : wipe σ2 own = wipe σ own := wipe_set (by rw [l2, wipe_length]) n2 hw'
          refine ⟨hwp, TB.go hK hM g6 ?_⟩
          cases e2 : t s2 with
          | none => rw [e2] at hc; cases hc
          | some p =>
            obtain ⟨r, s3⟩ := p
            rw [e2] at hc
            cases r with
            | err c v => cases hc
            | ok b =>
              intro H3 cs3 F9 F10 g7
              cases b with
              | false =>
                rw [if_neg Bool.false_ne_true]
                obtain ⟨F11, g8⟩ := g7.wipe own
                rw [hwp, strip_noPk nT] at g8
                exact ⟨cs3, F11, F10, s3.ρ, s3.μ, acc, g8, hc⟩
              | true =>
                rw [if_pos rfl]
                dsimp only at hc
                refine ⟨Γ, cs3, s3, _, F9, F10, hK, hM, g7, ?_⟩
                cases e3 : m1 s3 with
                | none => rw [e3] at hc; cases hc
                | some p =>
                  obtain ⟨r, s4⟩ := p
                  rw [e3] at hc
                  cases r with
                  | err c v => cases hc
                  | ok src1 =>
                    intro J1 U1 H4 cs4 F11 F12 jo1 g9
                    dsimp only at hc
                    cases e4 : comp2I own1 f1 t1 e src1 acc s4 with
                    | none => rw [e4] at hc; cases hc
                    | some p =>
                      obtain ⟨acc1, s5⟩ := p
                      rw [e4] at hc
                      dsimp only at hc
                      have nU1 : noPk (U1 ++ U) = true := noPk_app jo1.np jo.np
                      have nV : noPk (strip T) = true := noPk_strip T
                      obtain ⟨F13, g10⟩ := g9.wipe own1
                      rw [strip_noPk (noPk_app jo1.np nT)] at g10
                      have g10' : Good Γ cs4 H4 (wipe σ2 own1) (wipeE s4.ρ own1) s4.μ ((U1 ++ U) ++ ((.ref D, .val (.lst true acc)) :: strip T)) F13 F12 := by
                        rw [List.append_assoc]; exact g10
                      -- the inner for has ended
                      have stop1 : ∀ {cs Fs Ft : List Addr} {H : Hp} {ρ1 : Env} {μ1 : Cells}, s5 = ⟨wipeE ρ1 own1, μ1⟩ → Good Γ cs H (wipe σ2 own1) (wipeE ρ1 own1) μ1 ((U1 ++ U) ++ ((.ref D, .val (.lst true acc1)) :: strip T)) Fs Ft →
                          ∃ (cs Fs Ft : List Addr) (ρ0 : Env) (μ : Cells) (acc : List DL.D), Good Γ cs H (wipe σ own) (wipeE ρ0 own) μ (U ++ ((.ref D, .val (.lst true acc)) :: strip T)) Fs Ft ∧
                            comp2L own own1 f t m1 f1 t1 e (items.drop (i + 1)) acc ⟨wipeE ρ0 own, μ⟩ = some (accF, sF) := fun {cs Fs Ft H ρ1 μ1} es g => by
                        rw [List.append_assoc] at g
                        obtain ⟨F14, g11, _⟩ := g.popU
                        obtain ⟨F15, g12⟩ := g11.wipe own
                        rw [wipe_wipe ho', hwp, strip_noPk (noPk_app jo.np (show noPk ((.ref D, .val (.lst true acc1)) :: strip T) = true from nV))] at g12
                        subst es
                        exact ⟨cs, F15, F14, wipeE ρ1 own1, μ1, acc1, g12, hc⟩
                      cases src1 with
                      | str n it fn => cases e4
                      | fix items1 =>
                        simp only [comp2I] at e4
                        split at e4
                        · rename_i hz
                          refine ⟨fun j k H => k = items1.length - j ∧ ∃ (cs Fs Ft : List Addr) (ρ1 : Env) (μ1 : Cells) (acc2 : List DL.D), acc2.length ≤ acc.length + j ∧ Good Γ cs H (wipe σ2 own1) (wipeE ρ1 own1) μ1 ((U1 ++ U) ++ ((.ref D, .val (.lst true acc2)) :: strip T)) Fs Ft ∧
                            compL own1 f1 t1 e (items1.drop j) acc2 ⟨wipeE ρ1 own1, μ1⟩ = some (acc1, s5), ⟨_, rfl, cs4, F13, F12, s4.ρ, s4.μ, acc, by omega, g10', e4⟩, ?_⟩
                          rintro j k H ⟨rfl, cs, Fs, Ft, ρ1, μ1, acc2, hl2, g, hc1⟩
                          have g' := g
                          rw [List.append_assoc] at g'
                          cases q1 : items1[j]? with
                          | none =>
                            have hl : items1.length ≤ j := by simpa using q1
                            refine .inl ⟨jo1.stop Γ cs H _ _ _ _ Fs Ft j hK hM g' q1 rfl, ?_⟩
                            rw [List.drop_eq_nil_of_le hl] at hc1
                            simp only [compL, Option.some.injEq, Prod.mk.injEq] at hc1
                            obtain ⟨rfl, rfl⟩ := hc1
                            exact stop1 rfl g
                          | some d1 =>
                            obtain ⟨hlt1, he1⟩ := List.getElem?_eq_some_iff.mp q1
                            obtain ⟨hgo1, hy1⟩ := jo1.go Γ cs H _ _ _ _ Fs Ft j d1 hK hM g' q1
                            rw [List.drop_eq_getElem_cons hlt1, he1] at hc1
                            refine .inr ⟨hgo1, (fun H => ∃ (cs Fs Ft : List Addr) (ρ1 : Env) (μ1 : Cells) (acc2 : List DL.D), acc2.length ≤ acc.length + (j + 1) ∧ Good Γ cs H (wipe σ2 own1) (wipeE ρ1 own1) μ1 ((U1 ++ U) ++ ((.ref D, .val (.lst true acc2)) :: strip T)) Fs Ft ∧
                              compL own1 f1 t1 e (items1.drop (j + 1)) acc2 ⟨wipeE ρ1 own1, μ1⟩ = some (acc1, s5)), fun H' h => ⟨items1.length - (j + 1), by omega, rfl, h⟩, fun x H' y => ?_⟩
                            exact comp_turn hK hM nU1 nV hw1' (compL own1 f1 t1 e (items1.drop (j + 1))) acc1 s5 _ cs Fs Ft H ρ1 μ1 acc2 d1 (by omega) hc1 (fun H' cs' Fs' Ft' ρ2 μ2 acc' hl g' hc' => ⟨cs', Fs', Ft', ρ2, μ2, acc', by omega, g', hc'⟩) x H' (by
                              obtain ⟨Fa, Fb, gg⟩ := hy1 x H' y
                              rw [← List.append_assoc] at gg
                              exact ⟨Fa, Fb, gg⟩)
                        · cases e4
                      | dyn n it =>
                        simp only [comp2I] at e4
                        split at e4
                        · rename_i hz
                          refine ⟨fun j k H => j + k = n ∧ ∃ (cs Fs Ft : List Addr) (ρ1 : Env) (μ1 : Cells) (acc2 : List DL.D), acc2.length ≤ acc.length + j ∧ Good Γ cs H (wipe σ2 own1) (wipeE ρ1 own1) μ1 ((U1 ++ U) ++ ((.ref D, .val (.lst true acc2)) :: strip T)) Fs Ft ∧
                            compD own1 f1 t1 e it k j acc2 ⟨wipeE ρ1 own1, μ1⟩ = some (acc1, s5), ⟨n, by omega, cs4, F13, F12, s4.ρ, s4.μ, acc, by omega, g10', e4⟩, ?_⟩
                          rintro j k H ⟨hjk, cs, Fs, Ft, ρ1, μ1, acc2, hl2, g, hc1⟩
                          have g' := g
                          rw [List.append_assoc] at g'
                          cases k with
                          | zero => cases hc1
                          | succ k =>
                            cases q1 : it μ1 j with
                            | none =>
                              refine .inl ⟨jo1.stop Γ cs H _ _ _ _ Fs Ft j hK hM g' q1 rfl, ?_⟩
                              simp only [compD, q1, Option.some.injEq, Prod.mk.injEq] at hc1
                              obtain ⟨rfl, rfl⟩ := hc1
                              exact stop1 rfl g
                            | some d1 =>
                              obtain ⟨hgo1, hy1⟩ := jo1.go Γ cs H _ _ _ _ Fs Ft j d1 hK hM g' q1
                              simp only [compD, q1] at hc1
                              refine .inr ⟨hgo1, (fun H => ∃ (cs Fs Ft : List Addr) (ρ1 : Env) (μ1 : Cells) (acc2 : List DL.D), acc2.length ≤ acc.length + (j + 1) ∧ Good Γ cs H (wipe σ2 own1) (wipeE ρ1 own1) μ1 ((U1 ++ U) ++ ((.ref D, .val (.lst true acc2)) :: strip T)) Fs Ft ∧
                                compD own1 f1 t1 e it k (j + 1) acc2 ⟨wipeE ρ1 own1, μ1⟩ = some (acc1, s5)), fun H' h => ⟨k, Nat.lt_succ_self k, by omega, h⟩, fun x H' y => ?_⟩
                              exact comp_turn hK hM nU1 nV hw1' (compD own1 f1 t1 e it k (j + 1)) acc1 s5 _ cs Fs Ft H ρ1 μ1 acc2 d1 (by omega) hc1 (fun H' cs' Fs' Ft' ρ2 μ2 acc' hl g' hc' => ⟨cs', Fs', Ft', ρ2, μ2, acc', by omega, g', hc'⟩) x H' (by
                                obtain ⟨Fa, Fb, gg⟩ := hy1 x H' y
                                rw [← List.append_assoc] at gg
                                exact ⟨Fa, Fb, gg⟩)
                        · cases e4
theorem TIt.same {X Y : Cx} {W : WX} {m : M Src} (hK : Y.K = X.K) (hM : Y.mg = X.mg) {σ : St} {H : Hp} {R : L2.It → Hp → Prop} (q : TIt X W m σ H R) : TIt Y W m σ H R := by
  obtain ⟨Γ, cs, s, T, Fs, Ft, h1, h2, g, a⟩ := q
  refine ⟨Γ, cs, s, T, Fs, Ft, h1.trans hK.symm, h2.trans hM.symm, g, a.mono fun src s' k J U H' cs' Fs' Ft' jo g' => k J U H' cs' Fs' Ft' ⟨jo.np, ?_, ?_⟩ g'⟩
  · intro Γ cs H σ ρ μ T Fs Ft i e1 e2
    exact jo.stop Γ cs H σ ρ μ T Fs Ft i (e1.trans hK.symm) (e2.trans hM.symm)
  · intro Γ cs H σ ρ μ T Fs Ft i d e1 e2
    exact jo.go Γ cs H σ ρ μ T Fs Ft i d (e1.trans hK.symm) (e2.trans hM.symm)
theorem dLC2 {elt tg iter tg1 iter1 : Expr} {ifs ifs1 : List Expr} {scope : Scope} {own : List (Str × Nat)} {own1 : List Nat} {pos : Pos} {m m1 : M Src} {ws ws1 : List Nat} {f f1 : Tgt} {t t1 : M Bool} {e : M It} (hc : X.calm = true) (hN : X.N.Nodup) (hi : PI X tg iter (TIt X W m)) (ok : BlkOk X.N X.env.scope scope own)
    (hg : ∀ (s : Shared) (H : Hp) (C : Addr) (cl : List (Str × Addr)) (fp : List Addr), PG (X.blk s H scope (compEnvC scope cl C X.env) fp) tg (TGt X ws f)) (ht : ∀ (s : Shared) (H : Hp) (C : Addr) (cl : List (Str × Addr)) (fp : List Addr), PTs (X.blk s H scope (compEnvC scope cl C X.env) fp) ifs (TB X (fun _ _ _ _ => False) t))
    (hi1 : ∀ (s : Shared) (H : Hp) (C : Addr) (cl : List (Str × Addr)) (fp : List Addr), PI (X.blk s H scope (compEnvC scope cl C X.env) fp) tg1 iter1 (TIt (X.blk s H scope (compEnvC scope cl C X.env) fp) (fun _ _ _ _ => False) m1))
    (hg1 : ∀ (s : Shared) (H : Hp) (C : Addr) (cl : List (Str × Addr)) (fp : List Addr), PG (X.blk s H scope (compEnvC scope cl C X.env) fp) tg1 (TGt X ws1 f1)) (ht1 : ∀ (s : Shared) (H : Hp) (C : Addr) (cl : List (Str × Addr)) (fp : List Addr), PTs (X.blk s H scope (compEnvC scope cl C X.env) fp) ifs1 (TB X (fun _ _ _ _ => False) t1))
    (he : ∀ (s : Shared) (H : Hp) (C : Addr) (cl : List (Str × Addr)) (fp : List Addr), PE (X.blk s H scope (compEnvC scope cl C X.env) fp) elt (TD X (fun _ _ _ _ => False) e)) (hw : ws.all ((own.map (·.2)).contains ·) = true := by rfl) (hw1 : ws1.all (own1.contains ·) = true := by rfl) (ho : own1.all ((own.map (·.2)).contains ·) = true := by rfl)
    (hs : ∀ x, foldedSetIterable iter X.env x = pure x := by intro _; rfl) (hs1 : ∀ env x, foldedSetIterable iter1 env x = pure x := by intro _ _; rfl) :
    PE X (.ListComp elt [⟨tg, iter, ifs, 0⟩, ⟨tg1, iter1, ifs1, 0⟩] scope pos) (TD X W (comp2 (own.map (·.2)) own1 m f t m1 f1 t1 e)) :=
  PE.imp (pe_lc2 hc hN hi ok (fun i hi => by have := List.all_eq_true.mp ho i hi; simpa using this) hg ht (fun s H0 C cl fp => PI.imp (hi1 s H0 C cl fp) fun σ H Q q => TIt.same (X := X) (Y := X.blk s H0 scope (compEnvC scope cl C X.env) fp) rfl rfl q) hg1 ht1 he hs hs1) fun σ H Q q => comp2_go hw hw1 ho q
/-! ### how many bits; where in a list -/
def bitsM (m : M It) : M It := bnd m fun i s =>
  match i.at s.ρ with
  | some (.int k) => some (.ok (.val (.int (Builtin.Int.intBits k))), s)
  | _ => none
theorem dBits {o : Expr} {apos pos : Pos} {m : M It} (h : PE X o (TD X W m)) (hbase : attributeBase o "bit_length" X.env (eval o X.env) = eval o X.env := by rfl) (hline : (apos.endLine == pos.line) = true := by rfl) :
    PE X (.Call (.Attribute o "bit_length" apos) [] [] pos) (TD X W (bitsM m)) :=
  PE.imp (pe_bits h hbase hline) fun σ H Q ⟨Γ, cs, s, T, Fs, Ft, hK, hM, g, a⟩ => TD.go hK hM g (a.bnd.mono fun i s1 a1 v1 H1 cs1 Fs1 Ft1 g1 => by
    split at a1
    · rename_i k hk
      obtain ⟨f, r1⟩ := g1.look hk
      obtain ⟨Ft2, g2⟩ := g1.pop
      cases r1
      exact ⟨k, rfl, a1 _ H1 cs1 Fs1 Ft2 (g2.push0 (.int _))⟩
    · exact a1.elim)
def idxO (ds : List D) (es : List D) : Option D :=
  match intsD ds, es with
  | some ns, [.int k] => (ns.findIdx? (· == k)).map fun (j : Nat) => .int j
  | _, _ => none
def ixL (m : M It) (n : M (List It)) : M It := bnd m fun i s =>
  match i with
  | .val (.lst false ds) => bnd n (fun l s => match vals? l with
    | some es => match idxO ds es with
      | some z => some (.ok (.val z), s)
      | none => none
    | none => none) s
  | _ => none
theorem dIdx {o e : Expr} {es : List Expr} {apos cpos : Pos} {m : M It} {n : M (List It)} (h : PE X o (TD X W m)) (ha : PA X (e :: es) (TAs X W n))
    (hbase : attributeBase o "index" X.env (eval o X.env) = eval o X.env := by rfl)
    (hfew : ((backTo cpos (starEach (e :: es) X.env)).all (fun x => !x.1) && (backToKw cpos (keywordEach [] X.env)).all (fun x => x.1.isSome)
      && decide ((e :: es).length + ([] : List Keyword).length + (if ([] : List Keyword).isEmpty then 0 else 1) < 30)) = true := by rfl)
    (hline : (apos.endLine == cpos.line) = true := by rfl) (hs : starEach (e :: es) X.env = (false, eval e X.env) :: starEach es X.env := by rfl) (hplain : (backTo cpos (starEach es X.env)).any (·.1) = false := by rfl) :
    PE X (.Call (.Attribute o "index" apos) (e :: es) [] cpos) (TD X W (ixL m n)) :=
  PE.imp (pe_bm PySem.F.plainAttrs_list PySem.F.slot_list_index PySem.F.type_list_index mt_index h ha hbase hfew hline hs hplain) fun σ H Q ⟨Γ, cs, s, T, Fs, Ft, hK, hM, g, a⟩ => TD.go hK hM g (a.bnd.mono fun i s1 a1 v1 H1 cs1 Fs1 Ft1 g1 => by
    split at a1
    · rename_i ds
      obtain ⟨a, xs, rfl, hq, _⟩ := g1.view (v := v1) (d := .lst false ds) (ds := ds) (by simp) rfl
      refine ⟨.inl ⟨rfl, xs, by rw [← hK]; exact hq⟩, TAs.go hK hM g1 (a1.bnd.push.mono fun l s2 a2 vs H2 cs2 Fs2 Ft2 hl g2 => ?_)⟩
      split at a2
      · rename_i es' ev
        split at a2
        · rename_i z hz
          have e' := vals_eq ev
          subst e'
          unfold idxO at hz
          split at hz
          · rename_i ns k hn
            rw [Option.map_eq_some_iff] at hz
            obtain ⟨j, hj, rfl⟩ := hz
            obtain ⟨y, rfl⟩ : ∃ y, vs = [y] := by
              cases vs with
              | nil => simp at hl
              | cons y l => cases l with
                | nil => exact ⟨y, rfl⟩
                | cons _ _ => simp at hl
            have hy := g2.tm.mem (v := y) (d := .int k) (by simp)
            obtain ⟨f, ry⟩ := hy
            cases ry
            obtain ⟨b, ys, eb, hq2, rs⟩ := g2.view (v := .ref a) (d := .lst false ds) (ds := ds) (by simp) rfl
            cases eb
            rw [intsD_eq hn] at rs
            rw [rs.ints] at hq2
            obtain ⟨hlt, hp, hb⟩ := List.findIdx?_eq_some_iff_getElem.mp hj
            refine ⟨a, ns.map V.int, .int k, j, .int ns[j], rfl, rfl, by rw [← hK]; exact hq2, rfl, ?_, ?_, ?_, ?_, ?_⟩
            · rw [List.all_eq_true]; intro x hx; obtain ⟨i, _, rfl⟩ := List.mem_map.mp hx; rfl
            · rw [List.getElem?_map, List.getElem?_eq_getElem hlt]; rfl
            · exact hp
            · intro m z' hm hz'
              rw [List.getElem?_map, Option.map_eq_some_iff] at hz'
              obtain ⟨w, hw, rfl⟩ := hz'
              have := hb m hm
              obtain ⟨hml, hwe⟩ := List.getElem?_eq_some_iff.mp hw
              rw [hwe] at this
              have q : (w == k) = false := by simpa using this
              exact q
            · obtain ⟨F3, g3, _⟩ := Good.popU (U := [(V.int k, It.val (.int k)), (V.ref a, It.val (.lst false ds))]) g2
              exact a2 _ H2 cs2 Fs2 F3 (g3.push0 (.int _))
          · cases hz
        · exact a2.elim
      · exact a2.elim
    · exact a1.elim)
end
end DL
/-! The program's own exceptions: class E(ValueError) whose __init__ says super().__init__(value); self.value = value. -/
namespace DL
open PySem L2
open PyProof.Rows (envOfC Fr News)
/-! ### the __init__ -/
structure IPos where
  p1 : Pos
  p2 : Pos
  p3 : Pos
  p4 : Pos
  p5 : Pos
  p6 : Pos
  p7 : Pos
  p8 : Pos
  p9 : Pos
  p10 : Pos
def iniCall (p : IPos) : Expr := .Call (.Attribute (.Call (.Name "super" p.p1) [] [] p.p2) "__init__" p.p3) [.Name "value" p.p4] [] p.p5
def iniBody (p : IPos) : List Stmt :=
  [.Expr (iniCall p) p.p6, .Assign [.Attribute (.Name "self" p.p7) "value" p.p8] (.Name "value" p.p9) p.p10]
theorem iniCall_eq (p : IPos) (h : (p.p3.endLine == p.p5.line) = true) (env : PySem.Env) : eval (iniCall p) env = (do
      let ov ← attributeBase (.Call (.Name "super" p.p1) [] [] p.p2) "__init__" env (eval (.Call (.Name "super" p.p1) [] [] p.p2) env)
      standAt p.p3.atName
      let (f, first) ← holding [ov] (getMethod ov "__init__" (do return (← importBound (.Call (.Name "super" p.p1) [] [] p.p2) env).getD true))
      callWith p.p5 f first (backTo p.p5 (starEach [.Name "value" p.p4] env)) []) := by
  have e : methodCallPos true (.Call (.Name "super" p.p1) [] [] p.p2) env p.p3 p.p5 = pure p.p5 := by
    unfold methodCallPos
    rw [h]; rfl
  show (do
      let ov ← attributeBase (.Call (.Name "super" p.p1) [] [] p.p2) "__init__" env (eval (.Call (.Name "super" p.p1) [] [] p.p2) env)
      standAt p.p3.atName
      methodCall (.Call (.Name "super" p.p1) [] [] p.p2) "__init__" p.p3 p.p5 env ov 1 (backTo p.p5 (starEach [.Name "value" p.p4] env)) []) = _
  have m : ∀ ov, methodCall (.Call (.Name "super" p.p1) [] [] p.p2) "__init__" p.p3 p.p5 env ov 1 (backTo p.p5 (starEach [.Name "value" p.p4] env)) [] = (do
      let (f, first) ← holding [ov] (getMethod ov "__init__" (do return (← importBound (.Call (.Name "super" p.p1) [] [] p.p2) env).getD true))
      callWith p.p5 f first (backTo p.p5 (starEach [.Name "value" p.p4] env)) []) := fun ov => by
    show (do
      let (f, first) ← holding [ov] (getMethod ov "__init__" (do return (← importBound (.Call (.Name "super" p.p1) [] [] p.p2) env).getD true))
      let callPos ← methodCallPos true (.Call (.Name "super" p.p1) [] [] p.p2) env p.p3 p.p5
      callWith callPos f first (backTo p.p5 (starEach [.Name "value" p.p4] env)) []) = _
    rw [e]; rfl
  simp only [m]
def iniScope : Scope := { kind := .function, names := [(PySem.Str.ofString "self", .local), (PySem.Str.ofString "value", .local), (PySem.Str.ofString "__class__", .free), (PySem.Str.ofString "super", .globalImplicit)], isGenerator := false, isCoroutine := false, more := [] }
def iniArgs (q1 q2 : Pos) (dfs : List Expr) : Arguments :=
  { posonlyargs := [], args := [{ arg := "self", annotation := none, pos := q1 }, { arg := "value", annotation := none, pos := q2 }], vararg := none, kwonlyargs := [], kw_defaults := [], kwarg := none, defaults := dfs }
/-- what the written part says of the __init__ -/
structure IniK (P : Program) (K : PySem.W.Frag) (D fI : Addr) (fd : FuncData) : Prop where
  ex : ∃ (oc : Value) (od an : Option Addr) (osl : Array (Option Value)) (dV kV doc pm ct : Value) (cda cc : Addr) (q1 q2 : Pos) (dfs : List Expr) (p : IPos), (p.p3.endLine == p.p5.line) = true ∧
    fd = PySem.W.ksFn "__init__" "DebtError.__init__" (iniArgs q1 q2 dfs) (iniBody p) iniScope dV kV doc pm an (.ref cda) ct cc ∧ K.lookup fI = some ⟨oc, od, .func fd, osl⟩ ∧
    PySem.W.codeIn K (.ref cda) "DebtError.__init__" = true ∧ (∃ ccl cdd vs ccs file tf, K.lookup cda = some ⟨ccl, cdd, .fields vs, ccs⟩ ∧ vs[2]? = some (.str file tf) ∧ ((P.main.file : Str) == file) = true) ∧
    (∃ cl cld csl, K.lookup cc = some ⟨cl, cld, .cell (some (.ref D)), csl⟩)
  cls : ∃ cd, PySem.W.clsIn K D = some cd
  sup : PySem.W.nsIn K mainGlobals "super" = some none
  any : PySem.W.nsIn K PySem.cStatics "thirdparty.any" = some none
  top : (P.main.scope.names.lookup ("super" : Str)).isSome = false
/-- .. of a class that has it -/
structure ExcK (K : PySem.W.Frag) (C D fI : Addr) : Prop where
  oex : OexC K C
  up : PySem.W.ks_superIn K C D "__init__" = some (some (.builtin "ValueError.__init__"))
  sub : PySem.W.subIn K (.ref C) (.type "ValueError") = some true
  subD : PySem.W.mroIn K C (.ref D) = some true
  ini : PySem.W.excInitIn K C PySem.HandSPX.veTail "ValueError.__new__" = true
  noV : PySem.W.findIn K (.ref C) "value" = some none
  fi : PySem.W.findIn K (.ref C) "__init__" = some (some (.ref fI))
/-- the __init__'s promise -/
def spIni (K : PySem.W.Frag) (D fI : Addr) : Sp := fun vs H Q E => ∃ (a C : Addr) (v : V), vs = [.ref a, v] ∧ ExcK K C D fI ∧ H a = some (exo a C none) ∧
  ∀ dx, H dx = none → dx ≠ a → Q .non (upd (upd H dx (exd dx [(("value" : Str), v)])) a (exo a C (some dx)))
section
variable {P : Program} {w : World} {K : PySem.W.Frag} {mg : Str → Option Value} {base : Heap}
theorem ini_fn {CX : CXT} {D fI : Addr} {fd : FuncData} {k : Nat} (I : IniK P K D fI fd) : FnOk P w K mg base CX (k + 1) fI fd ["self", "value"] (spIni K D fI) := by
  refine ⟨fun vs H Q E ⟨a, C, v, e, _⟩ => by rw [e]; rfl, fun A outer s H args us vs Q E hr e0 hb r hsp => ?_⟩
  obtain ⟨a, C, v, rfl, T, ha, hq⟩ := hsp
  obtain ⟨oc, od, an, osl, dV, kV, doc, pm, ct, cda, cc, q1, q2, dfs, p, hpos, rfl, lk, hcd, ⟨ccl, cdd, cvs, ccs, file, tf, lc, hvs, hfile⟩, ⟨cl, cld, csl, lcc⟩⟩ := I.ex
  obtain ⟨cdD, hD⟩ := I.cls
  cases r with
  | cons ra r =>
  cases r with
  | @cons _ u _ _ rv r =>
  cases r
  obtain rfl := ra
  have base_in : ∀ b o, base.get? b = some o → s.heap.get? b = some o := fun b o e => (e0.bs b o e).1
  have KX := e0.mod.kin.keeps base_in
  obtain ⟨t0, hoa⟩ := exo_at e0.hok ha
  refine PySem.ks_codeAny_call_defAt (body := iniBody p) hr.depth (KX _ _ lk) rfl (e0.mod.nolimit.keeps base_in) (PySem.W.codeRec_of KX hcd) rfl hb (show ∀ x ∈ iniScope.names, x.2 ≠ .cell by decide) (by
    intro x hx
    simp only [List.zip_cons_cons, List.zip_nil_right, List.mem_cons, List.not_mem_nil, or_false] at hx
    rcases hx with rfl | rfl <;> rfl) (fun h1 hns keep => ?_)
  -- the ledger: all but the exception is the ground
  have nab : ∀ b o, base.get? b = some o → b ≠ a := fun b o e z => by
    have q := (e0.bs b o e).2
    rw [z, ha] at q
    cases q
  obtain ⟨h0, eh0⟩ : ∃ h0, h0 = PySem.W.hideAll s.heap [a] := ⟨_, rfl⟩
  have h0s : h0.objs.size = s.heap.objs.size := by rw [eh0]; exact PySem.W.hideAll_size _ _
  have g0 : ∀ b o, b ≠ a → s.heap.get? b = some o → h0.get? b = some o := fun b o hb e => by rw [eh0]; exact PySem.W.hideAll_get _ e (by simpa using hb)
  have ga : h0.get? a = none := by rw [eh0]; exact PySem.W.hideAll_none _ (by simp)
  have up0 : ∀ b o, h0.get? b = some o → s.heap.get? b = some o := fun b o e => by rw [eh0] at e; exact PySem.W.of_hideAll _ e
  have X0 : K.In h0 := e0.mod.kin.keeps fun b o e => g0 b o (nab b o e) (base_in b o e)
  obtain ⟨oD, hoD, hdD⟩ : ∃ oD, h1.get? D = some oD ∧ oD.data = .cls cdD := by
    unfold PySem.W.clsIn at hD
    split at hD
    · rename_i x1 x2 x3 x4 ho
      cases hD
      exact ⟨_, keep _ _ (KX _ _ ho), rfl⟩
    · cases hD
  have K1 : K.In h1 := X0.keeps fun b o e => keep b o (up0 b o e)
  have F1 : Fr h0 s.heap.objs.size h1 _ := ⟨hns, fun b o e => keep b o (up0 b o e), Nat.le_of_eq h0s⟩
  have aL : a ≠ s.heap.objs.size := Nat.ne_of_lt (Heap.lt_size hoa)
  have N1 : News h0 s.heap.objs.size h1 [(a, PySem.W.excObj C t0 none .none)] := fun q hq => by
    obtain rfl : q = _ := by simpa using hq
    exact ⟨keep _ _ hoa, aL, ga⟩
  obtain ⟨mb, hmb, hbt⟩ := e0.mod.blt
  have in1 : ∀ b o, base.get? b = some o → h1.get? b = some o := fun b o e => keep b o (base_in b o e)
  have I1 : PySem.W.InstAt h1 a (PySem.W.excObj C t0 none .none) C none := ⟨keep _ _ hoa, rfl, rfl, trivial⟩
  refine PySem.ks_wpAt_execs_cons (PySem.ks_wpAt_Expr_any (PySem.ks_wpAt_MethodCall ?_ (iniCall_eq p hpos _)))
  refine PySem.ks_wpAt_super_base (f := fI) (cc := cda) (ar := { arg := "self", annotation := none, pos := q1 }) rfl rfl (by decide) rfl (keep _ _ (KX _ _ lk)) rfl rfl rfl (keep _ _ (KX _ _ lc)) rfl hvs hfile I.top ?_
  refine PySem.W.ks_loadName_global rfl rfl (PySem.Calls.loadGlobal_builtin (mg := mg) (mb := mb) (v := .type "super") (e0.mod.glob.keeps in1) (PySem.W.mg_none_of e0.mod.kin e0.mod.glob I.sup) (hmb.keeps in1) ((hbt "super" (by decide)).trans (by kernel_rfl)) ⟨rfl, ?_⟩)
  refine PySem.wpAny_loadName_free (c := cc) (v := .ref D) rfl rfl rfl ⟨_, keep _ _ (KX _ _ lcc), rfl⟩ ?_
  refine PySem.wpAny_loadName_local (v := .ref a) rfl rfl hns rfl ?_
  refine PySem.ks_wpAny_isType_cls hoD hdD ⟨rfl, ?_⟩
  refine PySem.ks_wpAny_call_super hoD hdD (keep _ _ hoa) rfl (fun c z => nomatch z) (PySem.W.looks_mroIn K1 T.subD) (fun h2 eso k2 => ?_)
  obtain ⟨F2, N2, l2⟩ := PySem.W.ks_newsPush (s := { s with heap := h1, toks := s.toks + 2 }) F1 N1 rfl eso k2
  have I2 : PySem.W.InstAt h2 a (PySem.W.excObj C t0 none .none) C none := ⟨k2 _ _ (keep _ _ hoa), rfl, rfl, trivial⟩
  refine PySem.W.kxs_method (B := "ValueError") PySem.W.kxs_ValueError F2 X0 N2 (.head _) I2 I.any T.up T.sub (by decide) (fun q h3 F3 N3 l3 => ?_)
  refine PySem.W.kxs_callWith1 (i := "ValueError.__init__") (x := a) N3 (.head _) ?_
  refine PySem.Calls.spliced_cons (PySem.wpAny_Name (PySem.wpAny_loadName_local (v := u) rfl rfl F3.ns rfl ?_) (by decide))
  refine PySem.Calls.spliced_nil ⟨PySem.W.kxs_at N3 (.head _), ?_⟩
  have qa : a < q := l3 _ (.tail _ (.head _))
  have sa : a < h1.objs.size := l2 _ (.head _)
  refine PySem.W.kxs_call (B := "ValueError") (i := "ValueError.__init__") (newId := "ValueError.__new__") (bmB := PySem.HandSPX.veTail) (x := a) (t := t0) (dv := none) (c2 := .none) F3 X0 N3 PySem.F.excBase_ValueError T.ini (.head _) (.tail (Nat.ne_of_gt qa) (.tail (Nat.ne_of_gt sa) (.head (by simp)))) (by rw [sizeLine_eq]; simp) (fun t1 h4 F4 N4 l4 => ?_)
  -- self.value = value
  refine PySem.wpAt_of_wpAny (PySem.wpAny_execs_cons (PySem.plainObj_wpAny_Assign_Attribute ?_))
  refine PySem.wpAny_Name (PySem.wpAny_loadName_local (v := u) rfl rfl F4.ns rfl ?_) (by decide)
  refine PySem.wpAny_Name (PySem.wpAny_loadName_local (v := .ref a) rfl rfl F4.ns rfl ?_) (by decide)
  have e4 : h4.get? a = some ({ cls := .ref C, dict := none, data := .fields #[.ref t1, .none, .none, .none, .bool false, .none] } : Obj) := (N4 _ (.tail _ (.tail _ (.tail _ (.head _))))).1
  have K4 : K.In h4 := X0.keeps F4.keep
  have kp4 : ∀ b o, b ≠ a → s.heap.get? b = some o → h4.get? b = some o := fun b o hb e => F4.keep b o (g0 b o hb e)
  have sz4 : s.heap.objs.size ≤ h4.objs.size := by
    obtain ⟨oL, _, _, hL, _⟩ := F4.ns
    exact Nat.le_of_lt (Heap.lt_size hL)
  obtain ⟨nm, qn, N, bs, bm, sn, sub, ab, col, dd, j0, j1, j2, j3, j5, hC, hbm⟩ := T.oex.cls
  have hcl : PySem.W.clsIn K C = some { name := nm, bases := bs, mro := .ref C :: bm, ns := N, qualname := qn, hasDict := true, slotNames := sn, subclasses := sub, abstract := ab, collection := col, hasDel := false } := by
    unfold PySem.W.clsIn; rw [hC] <;> rfl
  refine PySem.W.set_plain K4 (ox := { cls := .ref C, dict := none, data := .fields #[.ref t1, .none, .none, .none, .bool false, .none] }) (od := none) ⟨e4, rfl, rfl, trivial⟩ T.oex.sa ?_
  refine PySem.HandSPX.exc_osa K4 e4 hcl (show PySem.HandSPX.refsVE (.ref C :: bm) = true from hbm) rfl T.noV (fun h5 tk5 dx k5 dn dne ea5 hn5 => ?_)
  refine PySem.wpAny_execs_nil ?_
  have fresh : H dx = none := e0.hok.fresh (Nat.le_trans sz4 dn)
  have kp5 : ∀ b o, b ≠ a → s.heap.get? b = some o → h5.get? b = some o := fun b o hb e => k5 b o hb (kp4 b o hb e)
  have nd : ∀ {b : Addr} {o : Obj}, s.heap.get? b = some o → b ≠ dx := fun {b o} e => Nat.ne_of_lt (Nat.lt_of_lt_of_le (Heap.lt_size e) (Nat.le_trans sz4 dn))
  have na : ∀ {b : Addr}, H b = none → b ≠ a := fun {b} e z => by rw [z, ha] at e; cases e
  have oth : ∀ {b : Addr} {o : HO}, H b = some o → o ≠ exo a C none → upd (upd H dx (exd dx [(("value" : Str), v)])) a (exo a C (some dx)) b = H b := fun {b o} e ne => by
    have h1 : b ≠ a := fun z => by
      rw [z, ha] at e
      exact ne (Option.some.inj e).symm
    rw [upd_ne h1, upd_ne (ne_of_none e fresh)]
  have U : Un (frs outer) [] H (upd (upd H dx (exd dx [(("value" : Str), v)])) a (exo a C (some dx))) s.heap h5 := {
    keep := fun b o e n _ _ => kp5 b o (na n) e
    slot := fun b o e n _ _ => ⟨o.slots, kp5 b o (na n) e⟩
    free := fun b o e n _ => by rw [upd_ne (na n), upd_ne (nd e)]; exact n
    there := fun b o e _ => by
      by_cases hb : b = a
      · subst hb; exact ⟨_, ea5⟩
      · exact ⟨o, kp5 b o hb e⟩
    tups := fun b xs e => by rw [oth e (Ne.symm exo_tup)]; exact e
    frzs := fun b o xs e => by rw [oth e (Ne.symm exo_frz)]; exact e
    tbls := fun b ps e => ⟨#[], by rw [oth e (Ne.symm exo_tbl), e, Array.append_empty]⟩ }
  refine ⟨.non, _, rfl, e0.bare, U, fun b o e => ?_, rfl, hq dx fresh dne⟩
  by_cases hb : b = a
  · subst hb
    rw [upd_same] at e
    cases e
    exact exo_ok ea5
  rw [upd_ne hb] at e
  by_cases hd : b = dx
  · subst hd
    rw [upd_same] at e
    cases e
    exact exd_ok hn5 (relO_put (fs := []) rv fun _ => True.intro)
  rw [upd_ne hd] at e
  refine (e0.hok b o e).stay (fun c x hc z => kp5 c x (fun q => ?_) z) (fun c hc => (oth hc (Ne.symm exo_own)).trans hc) fun c xs hc => (oth hc (Ne.symm exo_tup)).trans hc
  rcases hc with rfl | hc
  · exact hb q
  · rw [q, ha] at hc
    exact exo_own (Option.some.inj hc)
end
end DL
/-! try: body, except E as n: m = n, where what is caught outlives the suite. -/
namespace DL
open PySem L2 PySem.Spec
open PySem.HandSPX (FlyingZ HeldZ)
section
variable {X : Cx} {pins : List (Addr × Obj)} {σ : St} {H : Hp} {s sI : Shared} {a : Addr}
/-- an object that was laid since the entry, not tracked as yet, is tracked from now on -/
theorem adopt (I : Inv X pins σ H s) {o : HO} (na : H a = none) (nL : a ≠ X.env.locals) (nC : ∀ x c, X.env.cells.lookup x = some c → c ≠ a) (nw : X.s_0.heap.get? a = none)
    (np : ∀ p ∈ X.pn ++ pins, p.1 ≠ a) (new : ObjOk X.prog X.w (upd H a o) s.heap a o) : Inv X pins σ (upd H a o) s := by
  have ne : ∀ {b : Addr} {u : HO}, H b = some u → b ≠ a := fun e => ne_of_none e na
  have B := I.base
  have U : Un X.fs X.ex X.H_0 (upd H a o) X.s_0.heap s.heap := {
    keep := B.keep
    slot := B.slot
    there := B.there
    free := fun b u e n x => by
      have q : b ≠ a := fun z => by rw [z, nw] at e; cases e
      rw [upd_ne q]; exact B.free b u e n x
    tups := fun b xs e => by
      have q := B.tups b xs e
      rw [upd_ne (ne q)]; exact q
    frzs := fun b u xs e => by
      have q := B.frzs b u xs e
      rw [upd_ne (ne q)]; exact q
    tbls := fun b ps e => by
      obtain ⟨mo, q⟩ := B.tbls b ps e
      exact ⟨mo, by rw [upd_ne (ne q)]; exact q⟩ }
  refine ⟨I.ok, I.os, I.bare, U, I.loc, I.cell, ?_, fun x c e => ?_, fun p hp => ?_, fun b u e => ?_, I.len⟩
  · rw [upd_ne (Ne.symm nL)]; exact I.free
  · rw [upd_ne (nC x c e)]; exact I.freeC x c e
  · obtain ⟨p1, p2, p3⟩ := I.pin p hp
    exact ⟨p1, by rw [upd_ne (np p hp)]; exact p2, p3⟩
  · by_cases hb : b = a
    · subst hb
      rw [upd_same] at e
      cases e; exact new
    · rw [upd_ne hb] at e
      exact (I.hok b u e).stay (fun _ _ _ z => z) (fun c z => by rw [upd_ne (ne z)]; exact z) fun c xs z => by rw [upd_ne (ne z)]; exact z
/-- what the clause wishes -/
def wKeep (K : PySem.W.Frag) (c : Value) (i j : Nat) (Wout : WX) (D : Ends) : WX := fun cls d σ H => ∃ b, PySem.W.exmOne K cls c = some b ∧ (b = false → Wout cls d σ H) ∧
  (b = true → ∀ a, H a = none → ∃ C dd, cls = .ref C ∧ d = some dd ∧ D.nx ((σ.set j (some (.ref a))).set i none) (upd H a (excHO C dd a)))
theorem SP.unTry {xe : Value → Shared → Prop} {D : Ends} (ok : X.Ok) : ∀ {f : Flow} {t : Shared}, SP (X.tr (X.pn ++ pins) xe) [] D f t → SP X pins D f t
  | .next, _, ⟨σ1, H1, J, q⟩ => ⟨σ1, H1, J.ofTry ok, q⟩
  | .brk, _, ⟨σ1, H1, J, q⟩ => ⟨σ1, H1, J.ofTry ok, q⟩
  | .cont, _, ⟨σ1, H1, J, q⟩ => ⟨σ1, H1, J.ofTry ok, q⟩
  | .ret _, _, ⟨v, σ1, H1, J, rv, q⟩ => ⟨v, σ1, H1, J.ofTry ok, rv, q⟩
end
section
variable {X : Cx} {pins : List (Addr × Obj)} {σ : St} {H : Hp} {s sI s2 : Shared} {a : Addr} {B : Heap} {cls : Value} {d : Option Addr} {x n m : Str} {c : Value} {i j : Nat} {np q1 q2 q3 pos' pos : Pos} {D : Ends} {Wout : WX}
/-- where the exception's object lies -/
theorem outOf (J : Inv X pins σ H sI) (nb : ∀ b o, sI.heap.get? b = some o → b ∉ frs X.stack → B.get? b = some o) (hB : B.get? a = none) (nf : a ∉ frs X.stack) : sI.heap.get? a = none := by
  cases e : sI.heap.get? a with
  | none => rfl
  | some o =>
    have z := nb a o e nf
    rw [hB] at z; cases z
theorem notFrame {h : Heap} {l : List PySem.Env} {Z : Obj → Prop} (fl : FlyingZ B l a Z h) : a ∉ frs l := fun hm => by
  obtain ⟨_, _, ff, tr⟩ := fl
  obtain ⟨_, o1, e1, nd⟩ := ff.mem hm
  obtain ⟨oe, vs, _, _, _, e2, _, hd, _⟩ := tr
  rw [e1] at e2
  cases e2
  exact nd _ hd
/-- the clause, the flight once noted -/
theorem clause_keep (hs : X.stack = X.env :: X.outer) (hf : X.env.frame = some X.env.locals) (hN : X.N.Nodup) (hi : X.N[i]? = some n) (hj : X.N[j]? = some m) (hln : X.env.kindOf n = some .local) (hlm : X.env.kindOf m = some .local) (hij : i ≠ j) (hex : X.ex = [])
    (hg : Gl X x) (hm : X.mg x = some c) (hdb : (x == ("__debug__" : Str)) = false) (hdn : (n == ("__debug__" : Str)) = false) (hcn : (n == ("__classdict__" : Str)) = false) (hsw : swapsWith (.Name n q2) (some (.Name m q1)) q3.line X.env = pure false) (tk : Takes X Wout)
    (J : Inv X pins σ H sI) (nb : ∀ b o, sI.heap.get? b = some o → b ∉ frs X.stack → B.get? b = some o) (up : sI.heap.UpToSlots s2.heap) (fl : FlyingZ B (X.env :: X.outer) a (Zc cls d) s2.heap) (na : H a = none) (os : s2.os = sI.os) (ag : PyProof.Rows.AllBare s2.gens)
    (w : wKeep X.K c i j Wout D cls d σ H) :
    wpAny (model X.prog X.w) X.A (handleBy (.ref a) X.env [.ExceptHandler (some (.Name x np)) (some n) [.Assign [.Name m q1] (.Name n q2) q3] pos']) (SP X pins D) X.xe s2 := by
  have ok := J.ok
  obtain ⟨b, hb, hno, hyes⟩ := w
  have nfr : a ∉ frs X.stack := by rw [hs]; exact notFrame fl
  have nI := outOf J nb fl.2.1 nfr
  have nL : a ≠ X.env.locals := fun z => nfr (by rw [hs]; exact List.mem_filterMap.mpr ⟨X.env, .head _, by rw [hf, z]⟩)
  have nF : a ∉ X.fs := fun z => nfr (by
    rw [hs]
    obtain ⟨e, he, q⟩ := List.mem_filterMap.mp z
    exact List.mem_filterMap.mpr ⟨e, .tail _ he, q⟩)
  have J2 : Inv X pins σ H s2 := J.landed nb fl.1 up os ag
  obtain ⟨oe, vs, he, hz, hd⟩ := fl.there
  have S2 := J2.suite he hd na nL nF
  have LT : PySem.W.Looks (model X.prog X.w) s2.heap (typeOf (.ref a)) cls := fun A Q E s k q => wpAny_typeOf_ref (k _ _ he) (hz.1.symm ▸ q)
  have LM := PySem.W.exm_one (M := model X.prog X.w) S2.kIn LT hb
  refine wpAny_handleBy_cons (name := some n) (codeAny_handlers_test ?_) (fun q => by cases q)
  refine ld_glob (X := X.suite a ((a, oe) :: (X.pn ++ pins))) S2 hg hm (LM.here ?_) hdb
  cases b with
  | false =>
    refine PySem.wpAny_handleBy_nil ?_
    obtain ⟨_, _, _, o4, v4, T, oT, t4, e4, z4, d4, f4, r4⟩ := id fl
    unfold PySem.passOn
    have hT : ¬ ((Value.ref T == Value.none) = true) := by simp
    refine wpAny_bind (wpAny_field e4 d4 f4 ?_)
    rw [if_neg hT, hf]
    have fin : wpAny (model X.prog X.w) X.A (setFlight (.ref a) (some X.env.locals)) (fun _ s4 => wpAny (model X.prog X.w) X.A (throw (.ref a) : Sem Flow) (SP X pins D) X.xe s4) X.xe s2 :=
      PySem.HandSPX.setFlight_upZ fl fun h4 hh4 up4 => wpAny_throw (tk _ _ ⟨a, B, sI, pins, σ, H, cls, d, rfl, J, nb, up.trans up4, .inr (.inr (by rw [hs]; exact hh4)), na, os, ag, hno rfl⟩)
    first
      | exact wpAny_bind (wpAny_pure (wpAny_bind fin))
      | exact wpAny_bind fin
  | true =>
    obtain ⟨C, dd, rfl, rfl, q⟩ := hyes rfl a na
    refine codeAny_handlers_suite_as ?_
    refine PySem.HandSPX.lands_againZ fl fun h4 fl4 up4 => ?_
    have J4 : Inv X pins σ H { s2 with heap := h4 } := J.landed nb fl4.1 (up.trans up4) os ag
    obtain ⟨oe4, vs4, he4, hz4, hd4⟩ := fl4.there
    have S4 := J4.suite he4 hd4 na nL nF
    refine store_ok (X := X.suite a ((a, oe4) :: (X.pn ++ pins))) (v := .ref a) S4 hN hi (.inl hln) rfl (fun s5 S5 => ?_) (.inr hln)
    have hlen : i < σ.length := by rw [J4.len]; exact (List.getElem?_eq_some_iff.mp hi).1
    have run := (pss_one (ps_set (X := X.suite a ((a, oe4) :: (X.pn ++ pins))) (pos' := q1) hN hj (.inl hlm) (pe_var (pos := q2) hi (.inl hln) hdn hcn) hsw (.inr hlm))).run [] s5 _ H
      { nx := fun σ6 H6 => σ6 = (σ.set i (some (.ref a))).set j (some (.ref a)) ∧ H6 = H, rt := fun _ _ => False, bk := fun _ _ => False, ct := fun _ _ => False } S5 ⟨.ref a, List.getElem?_set_self hlen, rfl, rfl⟩
    refine wpAny_mono run (fun f s6 h6 => ?_) fun _ _ z => False.elim z
    cases f with
    | brk => obtain ⟨_, _, _, z⟩ := h6; exact z.elim
    | cont => obtain ⟨_, _, _, z⟩ := h6; exact z.elim
    | ret u => obtain ⟨_, _, _, _, _, z⟩ := h6; exact z.elim
    | next =>
      obtain ⟨σ6, H6, S6, rfl, rfl⟩ := h6
      refine gone_ok (X := X.suite a ((a, oe4) :: (X.pn ++ pins))) S6 hN hi hln fun s7 S7 => ?_
      obtain ⟨p1, p2, _⟩ := S7.pin (a, oe4) (by simp)
      have J7 : Inv X pins _ H6 s7 := S7.unsuite ok
      have A7 := adopt (o := excHO C dd a) J7 na nL (fun y c1 e z => by
          obtain ⟨v, o, ho, _⟩ := J.cell y c1 e
          rw [z, nI] at ho; cases ho) (by
        cases e : X.s_0.heap.get? a with
        | none => rfl
        | some o =>
          obtain ⟨o', z⟩ := J.base.there a o e (by rw [hex]; simp)
          rw [nI] at z; cases z) (fun p hp z => by
        have := (J.pin p hp).1
        rw [z, nI] at this; cases this) ⟨⟨oe4, vs4, p1, hz4.1, hz4.2, hd4⟩, ⟨_, p1⟩, fun h1 h2 ⟨o, v, z1, z2, z3, z4⟩ k => ⟨o, v, k o z1, z2, z3, z4⟩⟩
      refine ⟨_, _, A7, ?_⟩
      have e : (((σ.set i (some (V.ref a))).set j (some (.ref a))).set i none) = (σ.set j (some (.ref a))).set i none := by
        rw [List.set_comm _ _ hij, List.set_set]
      rw [e]; exact q
/-- THE RULE -/
theorem ps_try_keep {body : List Stmt} {tb : WX → TS} (hs : X.stack = X.env :: X.outer) (hf : X.env.frame = some X.env.locals) (hN : X.N.Nodup) (hi : X.N[i]? = some n) (hj : X.N[j]? = some m) (hln : X.env.kindOf n = some .local) (hlm : X.env.kindOf m = some .local) (hij : i ≠ j) (hex : X.ex = [])
    (hg : Gl X x) (hm : X.mg x = some c) (hdb : (x == ("__debug__" : Str)) = false) (hdn : (n == ("__debug__" : Str)) = false) (hcn : (n == ("__classdict__" : Str)) = false) (hsw : swapsWith (.Name n q2) (some (.Name m q1)) q3.line X.env = pure false) (tk : Takes X Wout)
    (hb : ∀ (W : WX) (pn : List (Addr × Obj)) (xe : Value → Shared → Prop), Takes (X.tr pn xe) W → PSs (X.tr pn xe) body (tb W)) :
    PS X (.Try body [.ExceptHandler (some (.Name x np)) (some n) [.Assign [.Name m q1] (.Name n q2) q3] pos'] [] [] pos) (fun D σ H => tb (wKeep X.K c i j Wout D) D σ H) := by
  refine ⟨fun pins s σ H D I h => wpAny_Try_except ?_⟩
  have ok := I.ok
  have hfr : X.A.frames = some (X.env :: X.outer) := ok.frames.trans (by rw [hs])
  have run := fun xe t => (hb (wKeep X.K c i j Wout D) (X.pn ++ pins) xe t).run [] s σ H D (I.toTry xe) h
  obtain ⟨xe0, hx0⟩ : ∃ xe0 : Value → Shared → Prop, xe0 = fun e t => wpAny (model X.prog X.w) X.A (noteFrame e X.env) (fun _ t2 => wpAny (model X.prog X.w) X.A (setFlight e none) (fun _ t3 =>
    wpAny (model X.prog X.w) X.A (handleBy e X.env [.ExceptHandler (some (.Name x np)) (some n) [.Assign [.Name m q1] (.Name n q2) q3] pos']) (SP X pins D) X.xe t3) X.xe t2) X.xe t := ⟨_, rfl⟩
  refine wpAny_mono (run xe0 ?_) (fun f s1 q => ?_) fun e t z => by rw [hx0] at z; exact z
  · intro u s1 ⟨a, B, sI, pn1, σ1, H1, cls, d, eu, J, nb, up, sky, na, os, ag, w⟩
    subst eu
    have sky2 : Sky B (X.env :: X.outer) a (Zc cls d) X.env.locals s1.heap := hs ▸ sky
    show xe0 (.ref a) s1
    rw [hx0]
    exact Sky.land Zc.steady hfr hf sky2 fun h3 fl3 up3 => clause_keep hs hf hN hi hj hln hlm hij hex hg hm hdb hdn hcn hsw tk (J.ofTry ok) nb (up.trans up3) fl3 na os ag w
  · have q2 := SP.unTry ok q
    cases f with
    | next => exact wpAny_execs_nil q2
    | brk => exact q2
    | cont => exact q2
    | ret v => exact q2
end
end DL
/-! Exceptions as data: raise, try, isinstance, e.value. -/
namespace DL
open PySem L2 PySem.Spec
/-! ### the classes, by reckoning -/
def oexB (K : PySem.W.Frag) (C : Addr) : Bool := match K.lookup C with
  | some ⟨.type "type", _, .cls cd, sl⟩ => match sl.toList with
    | [_, _, _, _, some (.builtin k), _] => match cd.mro with
      | .ref C2 :: bm => decide (C2 = C) && decide (k = "ValueError.__new__") && !cd.hasDel && cd.hasDict && PySem.HandSPX.refsVE bm
      | _ => false
    | _ => false
  | _ => false
theorem oexB_ok {K : PySem.W.Frag} {C : Addr} (h : oexB K C = true) : ∃ nm q N bs bm sn sub ab col dd k0 k1 k2 k3 k5, K.lookup C = some (excClassObj nm q C N bs bm true sn sub ab col dd k0 k1 k2 k3 k5 "ValueError.__new__") ∧ PySem.HandSPX.refsVE bm = true := by
  unfold oexB at h
  split at h
  · rename_i dd cd sl ho
    split at h
    · rename_i k0 k1 k2 k3 k k5 hs
      split at h
      · rename_i C2 bm hm
        simp only [Bool.and_eq_true, decide_eq_true_eq, Bool.not_eq_true'] at h
        obtain ⟨⟨⟨⟨e1, e2⟩, e3⟩, e4⟩, e5⟩ := h
        subst e1 e2
        obtain ⟨nm, bs, mro, ns, qn, hd, sn, sb, ab, col, del⟩ := cd
        dsimp only at hm e3 e4
        subst hm e3 e4
        have e : sl = #[k0, k1, k2, k3, some (.builtin "ValueError.__new__"), k5] := by
          cases sl; exact congrArg Array.mk hs
        subst e
        exact ⟨nm, qn, ns, bs, bm, sn, sb, ab, col, dd, k0, k1, k2, k3, k5, ho, e5⟩
      · cases h
    · cases h
  · cases h
/-- what a class says -/
structure ExcP (K : PySem.W.Frag) (C D fI : Addr) : Prop where
  k : ExcK K C D fI
  xf : XfC K C
  cl : (PySem.W.clsIn K C).isSome = true
  ca : PySem.W.findIn K (.ref C) "__class__" = some (some (.builtin "object.__class__"))
  sp : PySem.W.specialIn K (.builtin "object.__class__") "__get__" = some (some (.builtin "getset_descriptor.__get__"))
  tk : PySem.W.takesIn K (.builtin "object.__class__") = some true
  mo : PySem.W.mroIn K C (.type "object") = some true
  tI : PySem.W.typeIn K (.ref fI) = some (.type "function")
  km : PySem.W.exmOne K (.ref C) (.ref D) = some true
  ve : PySem.W.kitOne K (.ref C) (.type "ValueError") = some true
def excB (K : PySem.W.Frag) (C D fI : Addr) : Bool :=
  oexB K C && decide (PySem.W.findIn K (.ref C) "__setattr__" = some (some (.builtin "object.__setattr__"))) && decide (PySem.W.subIn K (.ref C) (.type "BaseException") = some true) && decide (PySem.W.typeIn K (.ref C) = some (.type "type")) &&
  PySem.W.keepIn K (.ref C) && decide (PySem.W.ks_superIn K C D "__init__" = some (some (.builtin "ValueError.__init__"))) && decide (PySem.W.subIn K (.ref C) (.type "ValueError") = some true) && decide (PySem.W.mroIn K C (.ref D) = some true) &&
  PySem.W.excInitIn K C PySem.HandSPX.veTail "ValueError.__new__" && decide (PySem.W.findIn K (.ref C) "value" = some none) && decide (PySem.W.findIn K (.ref C) "__init__" = some (some (.ref fI))) && xfB K C && (PySem.W.clsIn K C).isSome &&
  decide (PySem.W.findIn K (.ref C) "__class__" = some (some (.builtin "object.__class__"))) && decide (PySem.W.specialIn K (.builtin "object.__class__") "__get__" = some (some (.builtin "getset_descriptor.__get__"))) && decide (PySem.W.takesIn K (.builtin "object.__class__") = some true) &&
  decide (PySem.W.mroIn K C (.type "object") = some true) && decide (PySem.W.typeIn K (.ref fI) = some (.type "function")) && decide (PySem.W.exmOne K (.ref C) (.ref D) = some true) && decide (PySem.W.kitOne K (.ref C) (.type "ValueError") = some true)
theorem excB_ok {K : PySem.W.Frag} {C D fI : Addr} (h : excB K C D fI = true) : ExcP K C D fI := by
  simp only [excB, Bool.and_eq_true, decide_eq_true_eq] at h
  obtain ⟨⟨⟨⟨⟨⟨⟨⟨⟨⟨⟨⟨⟨⟨⟨⟨⟨⟨⟨a1, a2⟩, a3⟩, a4⟩, a5⟩, a6⟩, a7⟩, a8⟩, a9⟩, a10⟩, a11⟩, a12⟩, a13⟩, a14⟩, a15⟩, a16⟩, a17⟩, a18⟩, a19⟩, a20⟩ := h
  exact ⟨⟨⟨oexB_ok a1, a2, a3, a4, a5⟩, a6, a7, a8, a9, a10, a11⟩, xfB_ok a12, a13, a14, a15, a16, a17, a18, a19, a20⟩
/-- a module's exceptions: name, class, the names of the classes above -/
abbrev XTab := List (Str × Addr × List Str)
def exAllB (K : PySem.W.Frag) (T : XTab) (D fI : Addr) : Bool :=
  T.all fun p => excB K p.2.1 D fI && decide (PySem.W.kitOne K (.type "NoneType") (.ref p.2.1) = some false) && T.all fun q => decide (PySem.W.kitOne K (.ref p.2.1) (.ref q.2.1) = some (p.2.2.contains q.1))
abbrev ETab := List (Str × List Str)
/-- the facts of a module's exceptions -/
def Exs (P : Program) (K : PySem.W.Frag) (mg : Str → Option Value) (E : ETab) : Prop :=
  ∃ (T : XTab) (D fI : Addr) (fd : FuncData), T.map (fun p => (p.1, p.2.2)) = E ∧ (∀ p ∈ T, mg p.1 = some (.ref p.2.1)) ∧ mg "DebtError" = some (.ref D) ∧ exAllB K T D fI = true ∧ IniK P K D fI fd ∧ Binds K fd ["self", "value"] []
theorem Exs.get {K : PySem.W.Frag} {mg : Str → Option Value} {T : XTab} {D fI : Addr} {E : ETab} (hT : T.map (fun p => (p.1, p.2.2)) = E) (hm : ∀ p ∈ T, mg p.1 = some (.ref p.2.1)) (hB : exAllB K T D fI = true) {c : Str} {as : List Str} (e : E.lookup c = some as) :
    ∃ C, mg c = some (.ref C) ∧ (c, C, as) ∈ T ∧ ExcP K C D fI ∧ PySem.W.kitOne K (.type "NoneType") (.ref C) = some false ∧ ∀ q ∈ T, PySem.W.kitOne K (.ref C) (.ref q.2.1) = some (as.contains q.1) := by
  subst hT
  have h2 : ∃ p ∈ T, p.1 = c ∧ p.2.2 = as := by
    have := PySem.mem_of_lookup e
    obtain ⟨p, hp, q⟩ := List.mem_map.mp this
    cases q
    exact ⟨p, hp, rfl, rfl⟩
  obtain ⟨⟨c2, C, as2⟩, hp, rfl, rfl⟩ := h2
  have b := List.all_eq_true.mp hB _ hp
  simp only [Bool.and_eq_true, decide_eq_true_eq, List.all_eq_true] at b
  exact ⟨C, hm _ hp, hp, excB_ok b.1.1, b.1.2, b.2⟩
/-! ### raise -/
def rse (c : Str) (m : M It) : M Fl := bnd m fun i s => match i with
  | .val d => some (.err c d.share, s)
  | .pk _ => none
theorem xd_eq {H1 : Hp} {ad dx C : Addr} {v : V} (na : H1 ad = none) (ne : dx ≠ ad) :
    upd (del (upd (upd (upd H1 ad (exo ad C none)) dx (exd dx [(("value" : Str), v)])) ad (exo ad C (some dx))) ad) dx (.xd [(("value" : Str), v)]) = upd H1 dx (.xd [(("value" : Str), v)]) := by
  funext b
  by_cases h1 : b = dx
  · rw [h1, upd_same, upd_same]
  · rw [upd_ne h1, upd_ne h1]
    by_cases h2 : b = ad
    · rw [h2, del_same, na]
    · rw [del_ne h2, upd_ne h2, upd_ne h1, upd_ne h2]
section
variable {X : Cx} {W : WX}
theorem sRse {E : ETab} {c : Str} {e : Expr} {m : M It} {p q pos : Pos} {n : Nat} (hE : Exs X.prog X.K X.mg E) (hc : X.calm = true) (tk : Takes X W) (hr : Room n X.A) (he : PE X e (TD X W m)) (hl : (E.lookup c).isSome = true := by decide) (hn : 2 ≤ n := by decide) (hg : Gl X c := by rfl)
    (hdb : (c == ("__debug__" : Str)) = false := by decide) (hs : starEach [e] X.env = (false, eval e X.env) :: starEach [] X.env := by rfl) :
    PS X (.Raise (some (.Call (.Name c p) [e] [] q)) none pos) (TSt X W (rse c m)) := by
  obtain ⟨T, D, fI, fd, hT, hm, hD, hB, hI, hb⟩ := hE
  obtain ⟨as, hl⟩ := Option.isSome_iff_exists.mp hl
  obtain ⟨C, hC, hmem, KC, _, _⟩ := Exs.get hT hm hB hl
  have hx : Passes (L2.CX X.prog X.w) X (fun _ _ _ => False) := fun _ _ _ _ _ _ _ z => by
    obtain ⟨_, _, _, _, _, _, _, _, _, _, _, _, z⟩ := z
    exact z.elim
  refine PS.imp (ps_raise hc tk (pmk_oex KC.k.oex KC.k.fi KC.tI (ini_fn (CX := L2.CX X.prog X.w) (k := 0) hI) (hr.mono hn) hb .nil hx hg hC (pa_cons he pa_nil hs) hdb hs)) fun Dn σ H h => ?_
  obtain ⟨Γ, cs, s1, Tm, Fs, Ft, hK, hM, np, g, a⟩ := h
  refine TD.go hK hM g (a.bnd.mono fun it s2 a2 v H1 cs1 Fs1 Ft1 g1 => ?_)
  cases it with
  | pk i => exact a2.elim
  | val d =>
    refine ⟨by simp, fun ad na => ⟨ad, C, v, rfl, KC.k, upd_same, fun dx hdx hne => ⟨rfl, dx, [(("value" : Str), v)], upd_same, ?_, ?_, ?_⟩⟩⟩
    · rw [upd_ne hne, upd_same]
    · rw [upd_ne hne] at hdx; exact hdx
    · rw [xd_eq na hne]
      rw [upd_ne hne] at hdx
      obtain ⟨Ft2, g2⟩ := g1.shareTop
      exact a2 C dx v σ _ cs1 Fs1 Ft2 (g2.alloc0 hdx) (DL.D.free_share d) (by rw [hM]; exact hC) upd_same
/-! ### try -/
def tryK (E : ETab) (i j : Nat) (m : M Fl) : M Fl := fun s => match m s with
  | some (.err c v, s2) => match E.lookup c with
    | some _ => if i < s2.ρ.length ∧ j < s2.ρ.length then some (.ok .nx, ⟨(s2.ρ.set j (some (.exc c v))).set i none, s2.μ⟩) else none
    | none => none
  | o => o
theorem Slots.other {K : PySem.W.Frag} {mg : Str → Option Value} {cs B : List Addr} {H : Hp} {σ : St} {ρ : Env} {F : List Addr} (h : Slots K mg cs B H σ ρ F) {i : Nat} {x : Option V} (e : ρ[i]? = some none) : Slots K mg cs B H (σ.set i x) ρ F := by
  induction h generalizing i with
  | nil => exact .nil
  | skip h ih =>
    cases i with
    | zero => exact .skip h
    | succ i => exact .skip (ih (by simpa using e))
  | cons r h ih =>
    cases i with
    | zero => simp at e
    | succ i => exact .cons r (ih (by simpa using e))
theorem Good.unslot {Γ : Gm} {cs : List Addr} {H : Hp} {σ : St} {ρ : Env} {μ : Cells} {T : Tmp} {Fs Ft : List Addr} (g : Good Γ cs H σ ρ μ T Fs Ft) (np : noPk T = true) (i : Nat) : ∃ Fs', Good Γ cs H (σ.set i none) (ρ.set i none) μ T Fs' Ft := by
  obtain ⟨F, g2⟩ := g.unset i
  by_cases hi : i < ρ.length
  · exact ⟨F, g2.sl.other (List.getElem?_set_self hi), g2.tm.other np, g2.ce, g2.nd, g2.kp, g2.fr, g2.c1, g2.c2, g2.g0⟩
  · rw [List.set_eq_of_length_le (l := σ) (by rw [g.sl.len]; omega)]
    exact ⟨F, g2⟩
theorem sTryK {E : ETab} {n k : Str} {i j : Nat} {body : List Stmt} {m : M Fl} {np q1 q2 q3 pos' pos : Pos} (hE : Exs X.prog X.K X.mg E) (hs : X.stack = X.env :: X.outer) (hf : X.env.frame = some X.env.locals) (hN : X.N.Nodup) (hi : X.N[i]? = some n) (hj : X.N[j]? = some k)
    (hln : X.env.kindOf n = some .local) (hlm : X.env.kindOf k = some .local) (hij : i ≠ j) (hex : X.ex = []) (hg : Gl X "DebtError") (hdn : (n == ("__debug__" : Str)) = false) (hcn : (n == ("__classdict__" : Str)) = false) (hsw : swapsWith (.Name n q2) (some (.Name k q1)) q3.line X.env = pure false) (tk : Takes X W)
    (hb : ∀ (W : WX) (pn : List (Addr × Obj)) (xe : Value → Shared → Prop), Takes (X.tr pn xe) W → PSs (X.tr pn xe) body (TSt (X.tr pn xe) W m)) :
    PS X (.Try body [.ExceptHandler (some (.Name "DebtError" np)) (some n) [.Assign [.Name k q1] (.Name n q2) q3] pos'] [] [] pos) (TSt X W (tryK E i j m)) := by
  obtain ⟨T, D, fI, fd, hT, hm, hD, hB, hI, hbd⟩ := hE
  refine PS.imp (ps_try_keep (tb := fun W => TSt X W m) hs hf hN hi hj hln hlm hij hex hg hD (by decide) hdn hcn hsw tk (fun W pn xe t => hb W pn xe t)) fun Dn σ H h => ?_
  obtain ⟨Γ, cs, s1, Tm, Fs, Ft, hK, hM, nk, g, a⟩ := h
  refine ⟨Γ, cs, s1, Tm, Fs, Ft, hK, hM, nk, g, ?_⟩
  unfold tryK at a
  cases em : m s1 with
  | none => rw [em] at a; exact a.elim
  | some r =>
    rw [em] at a
    obtain ⟨r, s2⟩ := r
    cases r with
    | ok f => cases f <;> exact a
    | err c dv =>
      dsimp only at a
      cases hl : E.lookup c with
      | none => rw [hl] at a; exact a.elim
      | some as =>
        rw [hl] at a
        dsimp only at a
        split at a
        · rename_i hlen
          obtain ⟨C, hC, hmem, KC, _, _⟩ := Exs.get hT hm hB hl
          intro C2 d v σ1 H1 cs1 Fs1 Ft1 g1 hfr hm2 hd
          have hm3 := hm2
          rw [hM, hC] at hm3
          cases hm3
          refine ⟨true, KC.km, (fun z => nomatch z), fun _ ad na => ⟨_, d, rfl, rfl, ?_⟩⟩
          have g2 := g1.alloc0 (o := excHO C d ad) na
          obtain ⟨f, r2⟩ := g2.look (it := .val dv) rfl
          have r3 := r2
          have ef := r2.free hfr
          subst ef
          obtain ⟨Ft3, g3, hs3⟩ := g2.popS
          have hda : d ≠ ad := fun z => by rw [z, na] at hd; cases hd
          have rx : Rep Γ.K Γ.mg cs1 (Fs1 ++ Ft3 ++ cs1 ++ Γ.G) (upd H1 ad (excHO C d ad)) (.ref ad) (.exc c dv) [] := .exc (by rw [hM]; exact hC) upd_same (by rw [upd_ne hda]; exact hd) (r2.on (W := []) (Stp.refl _ _) (fun _ _ e => e) (fun a ha => .inl (ban hs3 a ha)) fun _ h => nomatch h)
          obtain ⟨F4, T4, g4⟩ := (g3.push0 rx).set nk (i := j) (by rw [g1.sl.len]; exact hlen.2)
          obtain ⟨F5, g5⟩ := g4.unslot nk i
          exact a _ _ _ _ _ g5
        · exact a.elim
/-! ### the value of an exception -/
def valE (E : ETab) (m : M It) : M It := bnd m fun i s => match i.at s.ρ with
  | some (.exc c v) => match E.lookup c with
    | some _ => some (.ok (.val v), s)
    | none => none
  | _ => none
theorem inst_of {C : Addr} {K : PySem.W.Frag} {P : Program} {w : World} {H : Hp} {h : Heap} {a d : Addr} {fs : List (Str × V)} (hok : HOk P w H h) (ha : H a = some (excHO C d a)) (hd : H d = some (.xd fs)) :
    ∃ (ox od : Obj) (mA : Str → Option Value), PySem.W.InstAt h a ox C (some od) ∧ (∀ f, PySem.W.lookIn f od = some (mA f)) ∧ ∀ f, RelO (fs.lookup f) (mA f) := by
  have x1 : ObjOk P w H h a (.ext fun h => ∃ oe vs, h.get? a = some oe ∧ oe.cls = .ref C ∧ oe.dict = some d ∧ oe.data = .fields vs) := hok a _ ha
  obtain ⟨⟨oe, vs, e1, e2, e3, e4⟩, _, _⟩ := x1
  have x2 : ObjOk P w H h d (.xd fs) := hok d _ hd
  obtain ⟨mA, hns, rel⟩ := x2
  obtain ⟨od, ho, hl⟩ := lookIn_ns hns
  exact ⟨oe, od, mA, ⟨e1, e2, by unfold PySem.W.notCls; rw [e4] <;> rfl, by rw [e3]; exact ho⟩, hl, rel⟩
theorem dVal {E : ETab} {e : Expr} {m : M It} {pos : Pos} (hE : Exs X.prog X.K X.mg E) (he : PE X e (TD X W m)) (hb : attributeBase e "value" X.env (eval e X.env) = eval e X.env := by rfl) : PE X (.Attribute e "value" pos) (TD X W (valE E m)) := by
  obtain ⟨T, D, fI, fd, hT, hm, hD, hB, hI, hbd⟩ := hE
  refine ⟨fun pins s σ H Q I h => attr_of hb ?_⟩
  obtain ⟨Γ, cs, s1, Tm, Fs, Ft, hK, hM, g, a⟩ := h
  refine thn (he.run pins s σ H (fun v H2 => ∃ (C ad d : Addr) (v0 : V), ExcP X.K C D fI ∧ v = .ref ad ∧ H2 ad = some (excHO C d ad) ∧ H2 d = some (.xd [(("value" : Str), v0)]) ∧ Q v0 H2) I (TD.go hK hM g (a.bnd.mono fun it s2 a2 v H2 cs2 Fs2 Ft2 g2 => ?_))) fun u t ⟨v, H2, I2, rv, C, ad, d, v0, KC, ev, ha, hd, q⟩ => ?_
  · split at a2
    · rename_i c dv hat
      split at a2
      · rename_i as hl
        obtain ⟨C, hC, _, KC, _⟩ := Exs.get hT hm hB hl
        obtain ⟨f, r⟩ := g2.look hat
        obtain ⟨Ft3, g3, hs3⟩ := g2.popS
        cases r with
        | @exc ad C2 d _ v0 _ hm2 h1 h2 r2 =>
          rw [hM, hC] at hm2
          cases hm2
          exact ⟨C, ad, d, v0, KC, rfl, h1, h2, a2 v0 H2 cs2 Fs2 Ft3 (g3.push0 (r2.on (W := []) (Stp.refl _ _) (fun _ _ e => e) (fun a ha => .inl (ban hs3 a ha)) fun _ h => nomatch h))⟩
      · exact a2.elim
    · exact a2.elim
  · subst ev
    obtain rfl : u = Value.ref ad := rv
    obtain ⟨ox, od, mA, J, hl, rel⟩ := inst_of (K := X.K) I2.hok ha hd
    obtain ⟨u0, hu, ru⟩ := RelO.some_of (v := v0) (o := mA "value") (by have := rel "value"; simpa [List.lookup] using this)
    exact PySem.HandSPX.exc_get I2.kIn J KC.xf.ga KC.xf.gg KC.xf.exC (PySem.W.findObj_own KC.xf.hdC KC.k.noV rfl (by rw [hl, hu])) (handed_of ru) ⟨v0, H2, I2.tok _, ru, q⟩
/-! ### isinstance -/
def rIsX (K : PySem.W.Frag) : List V → Hp → VK → Prop := fun xs H Q => ∃ (x c : V) (t cv : Value) (b : Bool), xs = [x, c] ∧ ClsV c cv ∧
  (TyX K H x t ∨ ∃ (a C d D fI : Addr) (fs : List (Str × V)), x = .ref a ∧ t = .ref C ∧ H a = some (excHO C d a) ∧ H d = some (.xd fs) ∧ ExcP K C D fI) ∧ PySem.W.kitOne K t cv = some b ∧ Q (.bl b) H
theorem cr_isX : CallR X (.builtin "isinstance") (rIsX X.K) := by
  intro pins s σ H xs us Q I r h
  obtain ⟨x, c, t, cv, b, rfl, k, hx, e, q⟩ := h
  rcases hx with hx | ⟨a, C, d, D, fI, fs, rfl, rfl, ha, hd, KC⟩
  · exact call_isi pins s σ H _ us Q I r ⟨x, c, t, cv, b, rfl, k, hx, e, q⟩
  · cases r with
    | cons r1 r2 => cases r2 with
      | cons r2 r3 =>
        cases r3
        have e1 := k.eq r2
        subst e1
        cases r1
        obtain ⟨ox, od, mA, J, hl, rel⟩ := inst_of (K := X.K) I.hok ha hd
        exact PySem.W.kia_one (PySem.W.kitx_exc KC.cl KC.xf.ga KC.xf.gg KC.xf.exC KC.ca KC.sp KC.tk KC.mo) I.kIn J e (fun z => nomatch z) fun tk => ⟨.bl b, H, I.tok tk, rfl, q⟩
def isaX (E : ETab) (ds : List D) : Option D := match ds with
  | [.exc c _, .fn C] => match E.lookup c, E.lookup C with
    | some as, some _ => some (.bool (as.contains C))
    | _, _ => none
  | [.exc c _, .ty T] => match E.lookup c with
    | some _ => if T = "ValueError" then some (.bool true) else none
    | none => none
  | [.none, .fn C] => match E.lookup C with
    | some _ => some (.bool false)
    | none => none
  | [.none, .ty T] => if T = "ValueError" then some (.bool false) else isaD [.none, .ty T]
  | ds => isaD ds
theorem ci_isaX {E : ETab} (hE : Exs X.prog X.K X.mg E) : ClI X (rIsX X.K) (isaX E) := by
  obtain ⟨T, D, fI, fd, hT, hm, hD, hB, hI, hbd⟩ := hE
  intro cs H xs ds z f Q r hz k
  unfold isaX at hz
  split at hz
  · rename_i c v C
    split at hz
    · rename_i as as2 h1 h2
      cases hz
      obtain ⟨A, hA, _, KA, _, pr⟩ := Exs.get hT hm hB h1
      obtain ⟨B, hBm, mB, _, _, _⟩ := Exs.get hT hm hB h2
      obtain ⟨x, y, f1, f2, rfl, rfl, r1, r2⟩ := reps2 r
      cases r1 with
      | @exc ad C2 d _ v0 _ hm2 h3 h4 r5 =>
        rw [hA] at hm2
        cases hm2
        cases r2 with
        | @fn b _ hf =>
          rw [hBm] at hf
          cases hf
          exact ⟨_, _, _, _, _, rfl, .own B, .inr ⟨ad, A, d, D, fI, _, rfl, rfl, h3, h4, KA⟩, pr _ mB, k _ (.bool _)⟩
    · cases hz
  · rename_i c v T2
    split at hz
    · rename_i as h1
      split at hz
      · rename_i e2
        cases hz
        subst e2
        obtain ⟨A, hA, _, KA, _, pr⟩ := Exs.get hT hm hB h1
        obtain ⟨x, y, f1, f2, rfl, rfl, r1, r2⟩ := reps2 r
        cases r2
        cases r1 with
        | @exc ad C2 d _ v0 _ hm2 h3 h4 r5 =>
          rw [hA] at hm2
          cases hm2
          exact ⟨_, _, _, _, _, rfl, .ty _, .inr ⟨ad, A, d, D, fI, _, rfl, rfl, h3, h4, KA⟩, KA.ve, k _ (.bool _)⟩
      · cases hz
    · cases hz
  · rename_i C
    split at hz
    · rename_i as h1
      cases hz
      obtain ⟨A, hA, _, KA, nn, pr⟩ := Exs.get hT hm hB h1
      obtain ⟨x, y, f1, f2, rfl, rfl, r1, r2⟩ := reps2 r
      cases r1
      cases r2 with
      | @fn b _ hf =>
        rw [hA] at hf
        cases hf
        exact ⟨_, _, _, _, _, rfl, .own A, .inl (.base .non), nn, k _ (.bool _)⟩
    · cases hz
  · rename_i T2
    split at hz
    · rename_i e2
      cases hz
      subst e2
      obtain ⟨x, y, f1, f2, rfl, rfl, r1, r2⟩ := reps2 r
      cases r1
      cases r2
      exact ⟨_, _, _, _, _, rfl, .ty _, .inl (.base .non), kit_ty (by kernel_rfl : kitB "NoneType" "ValueError" = some false), k _ (.bool _)⟩
    · obtain ⟨x, c, t, cv, b, e1, e2, e3, e4, e5⟩ := ci_isa (X := X) cs H xs _ z f Q r hz k
      exact ⟨x, c, _, _, b, e1, e2, .inl e3, e4, e5⟩
  · obtain ⟨x, c, t, cv, b, e1, e2, e3, e4, e5⟩ := ci_isa (X := X) cs H xs _ z f Q r hz k
    exact ⟨x, c, _, _, b, e1, e2, .inl e3, e4, e5⟩
/-- a class, a def by its name -/
theorem gFn {x : Str} {a : Addr} {pos : Pos} (hm : X.mg x = some (.ref a)) (hg : Gl X x := by rfl) (hd : (x == ("__debug__" : Str)) = false := by decide) : PE X (.Name x pos) (TD X W (kst (.fn x))) :=
  dG (pe_glob (v := .ref a) hg hm rfl hd) fun _ _ _ => .fn hm
theorem gEx {E : ETab} {x : Str} {pos : Pos} (hE : Exs X.prog X.K X.mg E) (hl : (E.lookup x).isSome = true := by decide) (hg : Gl X x := by rfl) (hd : (x == ("__debug__" : Str)) = false := by decide) : PE X (.Name x pos) (TD X W (kst (.fn x))) := by
  obtain ⟨T, D, fI, fd, hT, hm, hD, hB, hI, hbd⟩ := hE
  obtain ⟨as, hl⟩ := Option.isSome_iff_exists.mp hl
  obtain ⟨C, hC, _⟩ := Exs.get hT hm hB hl
  exact gFn hC hg hd
end
end DL
/-! A chain of three as a test, str(int), text.count, a def out of a table called. -/
namespace DL
open PySem L2 PySem.Spec
open PyProof.Rows hiding St
section
variable {X : Cx} {W : WX}
theorem pt_ch3 {a b c d : Expr} {o1 o2 o3 : CmpOp} {pos : Pos} {r1 r2 r3 : R2} {ta tb tc td : TE} (h1 : OpR X (compareOp o1) r1) (h2 : OpR X (compareOp o2) r2) (h3 : OpR X (compareOp o3) r3) (ha : PE X a ta) (hb : PE X b tb) (hc : PE X c tc) (hd : PE X d td)
    (hm : lastMarks [o1, o2, o3] [b, c, d] = false := by with_unfolding_all rfl) : PT X (.Compare a [o1, o2, o3] [b, c, d] pos) (tTest (tCh3 r1 r2 r3 ta tb tc td)) := by
  refine ⟨fun pins s σ H Q I h => ?_⟩
  refine isTrue_chain (thn (ha.run pins s σ H _ I h) fun v s1 ⟨x, H1, I1, q1, h⟩ => test_link (thn (hb.run pins s1 σ H1 _ I1 h) fun u s2 ⟨y, H2, I2, q2, h⟩ => thn (h1 pins s2 σ H2 x y v u _ I2 q1 q2 h) fun _ s3 ⟨z, H3, I3, q3, k, e, h⟩ => ?_)) hm
  subst e
  cases q3
  refine wpAny_truthy_bool ?_
  cases k with
  | false =>
    obtain ⟨k2, e2, q⟩ := h
    cases e2
    exact ite_ff ⟨H3, I3, q⟩
  | true =>
    refine ite_tt (test_link (thn (hc.run pins s3 σ H3 _ I3 h) fun t s4 ⟨w, H4, I4, q4, h⟩ => thn (h2 pins s4 σ H4 y w u t _ I4 q2 q4 h) fun _ s5 ⟨z, H5, I5, q5, k, e, h⟩ => ?_))
    subst e
    cases q5
    refine wpAny_truthy_bool ?_
    cases k with
    | false =>
      obtain ⟨k2, e2, q⟩ := h
      cases e2
      exact ite_ff ⟨H5, I5, q⟩
    | true =>
      refine ite_tt (test_last (thn (hd.run pins s5 σ H5 _ I5 h) fun t2 s6 ⟨w2, H6, I6, q6, h⟩ => thn (h3 pins s6 σ H6 w w2 t t2 _ I6 q4 q6 h) fun _ s7 ⟨z7, H7, I7, q7, k7, e7, h7⟩ => ?_))
      subst e7
      cases q7
      exact wpAny_truthy_bool ⟨H7, I7, h7⟩
theorem tC3 {a b c d : Expr} {o1 o2 o3 : CmpOp} {pos : Pos} {r1 r2 r3 : R2} {o p q : D → D → Option D} {m n k l : M It} (h1 : OpR X (compareOp o1) r1) (i1 : OpI X r1 o) (h2 : OpR X (compareOp o2) r2) (i2 : OpI X r2 p) (h3 : OpR X (compareOp o3) r3) (i3 : OpI X r3 q)
    (ha : PE X a (TD X W m)) (hb : PE X b (TD X W n)) (hc : PE X c (TD X W k)) (hd : PE X d (TD X W l)) (hm : lastMarks [o1, o2, o3] [b, c, d] = false := by with_unfolding_all rfl) : PT X (.Compare a [o1, o2, o3] [b, c, d] pos) (TB X W (tst (chn3 o p q m n k l))) :=
  PT.imp (pt_ch3 h1 h2 h3 ha hb hc hd hm) fun σ H Q r => chn3_go i1 i2 i3 (tst_go r)
/-! ### str(int) -/
def strD : List D → Option D
  | [.int i] => if i.natAbs < 1000000 then some (.str (toString i)) else none
  | _ => none
theorem ci_str : ClI X (fun xs H Q => ∃ i, xs = [.int i] ∧ i.natAbs.log2 < 1920 ∧ Q (.str (toString i)) H) strD := by
  intro cs H xs ds z f Q r hz k
  unfold strD at hz
  split at hz
  · rename_i i
    split at hz
    · rename_i hi
      cases hz
      cases r with
      | cons r1 r2 =>
        cases r2
        cases r1
        refine ⟨i, rfl, ?_, k _ (.str _)⟩
        have : i.natAbs.log2 ≤ (1000000 : Nat).log2 := by
          by_cases h0 : i.natAbs = 0
          · rw [h0]; decide
          · exact (Nat.le_log2 (by decide)).mpr (Nat.le_trans (Nat.log2_self_le h0) (Nat.le_of_lt hi))
        have e : (1000000 : Nat).log2 = 19 := by decide +kernel
        omega
    · cases hz
  · cases hz
/-! ### text.count(text) -/
def cntM (m n : M It) : M It := bnd m fun i s => match i with
  | .val (.str a) => bnd n (fun j s => match j.at s.ρ with
    | some (.str b) => some (.ok (.val (.int (Txt.count a b))), s)
    | _ => none) s
  | _ => none
theorem dCnt {o e : Expr} {apos pos : Pos} {m n : M It} (ho : PE X o (TD X W m)) (he : PE X e (TD X W n)) (hs : starEach [e] X.env = [(false, eval e X.env)] := by rfl) (hbase : attributeBase o "count" X.env (eval o X.env) = eval o X.env := by rfl) (hline : (apos.endLine == pos.line) = true := by rfl) :
    PE X (.Call (.Attribute o "count" apos) [e] [] pos) (TD X W (cntM m n)) :=
  PE.imp (pe_m1 PySem.F.slot_str_count PySem.F.type_str_count mt_count ho he hs hbase hline) fun σ H Q ⟨Γ, cs, s, T, Fs, Ft, hK, hM, g, a⟩ => TD.go hK hM g (a.bnd.mono fun i s1 a1 v1 H1 cs1 Fs1 Ft1 g1 => by
    split at a1
    · rename_i x
      obtain ⟨f1, r1⟩ := g1.look (d := .str x) rfl
      cases r1
      refine ⟨⟨x, rfl⟩, TD.go hK hM g1 (a1.bnd.push.mono fun j s2 a2 v2 H2 cs2 Fs2 Ft2 g2 => ?_)⟩
      split at a2
      · rename_i y hy
        obtain ⟨f2, r2⟩ := g2.look hy
        cases r2
        obtain ⟨Ft3, g3⟩ := g2.pop
        obtain ⟨Ft4, g4⟩ := g3.pop
        exact ⟨x, y, rfl, rfl, a2 _ H2 cs2 Fs2 Ft4 (g4.push0 (.int _))⟩
      · exact a2.elim
    · exact a1.elim)
/-! ### a def out of a table -/
def callV (tab : List (Str × Fn)) (mf : M It) (m : M (List It)) : M It := bnd mf fun i s => match i with
  | .val (.fn x) => match tab.lookup x with
    | some F => call F m s
    | none => none
  | _ => none
theorem dCallV {tab : List (Str × Fn)} {fe e : Expr} {es : List Expr} {pos : Pos} {mf : M It} {m : M (List It)} {n L : Nat} (hf : PE X fe (TD X W mf)) (hd : ∀ p ∈ tab, ∃ (k : Nat) (st : Stmt) (ps : List Str), k ≤ n ∧ ps.length = L ∧ Dn X.prog X.w X.K X.mg X.base k p.1 st ps p.2)
    (hr : Room n X.A) (hgd : X.A.guards = some []) (hx : ∀ σ, PassesAt (L2.CX X.prog X.w) X σ (WE W σ)) (ha : PA X (e :: es) (TAs X W m)) (hn : ∀ l s s', m s = some (.ok l, s') → l.length = L)
    (hev : eval (.Call fe (e :: es) [] pos) X.env = (do callWith pos (← eval fe X.env) [] (backTo pos (starEach (e :: es) X.env)) (backToKw pos (keywordEach [] X.env))) := by rfl)
    (he : starEach (e :: es) X.env = (false, eval e X.env) :: starEach es X.env := by rfl) (hpl : (backTo pos (starEach es X.env)).any (·.1) = false := by rfl) :
    PE X (.Call fe (e :: es) [] pos) (TD X W (callV tab mf m)) := by
  refine ⟨fun pins s σ H Q I h => ?_⟩
  rw [hev]
  obtain ⟨Γ, cs, s1, T, Fs, Ft, hK, hM, g, a⟩ := h
  refine wpAny_bind (thn (hf.run pins s σ H (fun v H1 => ∃ (x : Str) (F : Fn) (b : Addr), tab.lookup x = some F ∧ v = .ref b ∧ X.mg x = some (.ref b) ∧ TD X W (call F m) σ H1 Q) I (TD.go hK hM g (a.bnd.mono fun it s2 a2 v H2 cs2 Fs2 Ft2 g2 => ?_))) fun u t ⟨v, H1, I1, rv, x, F, b, hl, ev, hb, h1⟩ => ?_)
  · split at a2
    · rename_i x
      split at a2
      · rename_i F hl
        obtain ⟨f, r⟩ := g2.look (d := .fn x) rfl
        cases r with
        | fn hm =>
          obtain ⟨Ft3, g3⟩ := g2.pop
          exact ⟨x, F, _, hl, rfl, by rw [← hM]; exact hm, Γ, cs2, s2, T, Fs2, Ft3, hK, hM, g3, a2⟩
      · exact a2.elim
    · exact a2.elim
  · subst ev
    obtain rfl : u = Value.ref b := rv
    obtain ⟨k, st, ps, hk, hL, d⟩ := hd (x, F) (PySem.mem_of_lookup hl)
    obtain ⟨fa, fd, fa1, fa2, fa3, fa4⟩ := d
    have fa2 : X.mg x = some (.ref fa) := fa2
    rw [hb] at fa2
    cases fa2
    have h2 : tCallS (spD X.K X.mg ps.length F) (WE W) (TAs X W m) σ H1 Q := call_go (by rw [hL]; exact hn) h1
    refine PySem.W.callWith_K (h₀ := X.base) I.ok.mod.kin fa1.kp (thn (ha.run pos pins t σ H1 _ I1 h2) fun us s3 ⟨vs, H3, I3, r3, q3⟩ => ?_) he hpl
    exact ⟨I3.kIn, call_run fa4 hgd (hr.mono hk) fa3 (hx σ) I3 r3 q3⟩
end
end DL
namespace DL
open PySem L2 PySem.Spec
section
variable {X : Cx} {W : WX}
theorem gDf {x : Str} {st : Stmt} {ps : List Str} {pos : Pos} (d : Df X.K X.mg x st ps) (hg : Gl X x := by rfl) (hd : (x == ("__debug__" : Str)) = false := by decide) : PE X (.Name x pos) (TD X W (kst (.fn x))) := by
  obtain ⟨f, fd, _, hm, _⟩ := d
  exact gFn hm hg hd
end
end DL
namespace DL
open PySem L2 PySem.Spec
theorem ini_binds {K : PySem.W.Frag} {T cc : Addr} {o : Obj} {y : Value} {n : Nat} {q1 q2 : Pos} {dfs : List Expr} {p : IPos} {kV doc pm cdv ct : Value} {an : Option Addr} (lT : K.lookup T = some o) (oT : o.data = .seq #[y] n) :
    Binds K (PySem.W.ksFn "__init__" "DebtError.__init__" (iniArgs q1 q2 dfs) (iniBody p) iniScope (.ref T) kV doc pm an cdv ct cc) ["self", "value"] [] := by
  intro s us X hl
  rw [List.append_nil] at hl ⊢
  match us, hl with
  | [a, b], _ => exact L2.BindsTo.of_looks fun M => L2.looks_items (k := _) X lT oT (.of_pure rfl)
end DL
namespace DL
open PySem L2 PySem.Spec
/-! ### >= of tuples of ints -/
def geL (ns ms : List Int) : Bool := Ob.lexAt (fun j => decide (ns.getD j 0 = ms.getD j 0)) (fun j => decide (ms.getD j 0 ≤ ns.getD j 0)) (decide (ms.length ≤ ns.length)) 0 (min ns.length ms.length)
def geT : D → D → Option D
  | .int i, .int j => some (.bool (decide (j ≤ i)))
  | .tup xs, .tup ys => match intsD xs, intsD ys with
    | some ns, some ms => some (.bool (geL ns ms))
    | _, _ => none
  | _, _ => none
def rGeT (K : PySem.W.Frag) : R2 := fun x y H Q => ∃ (a b : Addr) (ns ms : List Int), x = .ref a ∧ y = .ref b ∧ SqT K H a (ns.map V.int) ∧ SqT K H b (ms.map V.int) ∧ Q (.bl (geL ns ms)) H
def rGeD (K : PySem.W.Frag) : R2 := fun x y H Q => rI0 (fun i j => .bl (decide (j ≤ i))) x y H Q ∨ rGeT K x y H Q
section
variable {X : Cx}
theorem op_geT (hu : X.A.units < cLine) : OpR X (compareOp .GtE) (rGeT X.K) := by
  intro pins s σ H x y v u Q I rx ry ⟨a, b, ns, ms, e1, e2, ha, hb, q⟩
  subst e1 e2
  cases rx
  cases ry
  obtain ⟨its, r1, p1, _⟩ := I.tuple ha
  obtain ⟨its2, r2, p2, _⟩ := I.tuple hb
  have i1 : PyProof.Rows.IntsAre its ns := Vals.ints r1
  have i2 : PyProof.Rows.IntsAre its2 ms := Vals.ints r2
  have l1 : its.toArray.size = ns.length := List.size_toArray.trans i1.length
  have l2 : its2.toArray.size = ms.length := List.size_toArray.trans i2.length
  have g1 : ∀ j (h : j < its.toArray.size), ∃ t, its.toArray[j] = .int (ns.getD j 0) t := fun j h => i1.int_at _ _ (by simp at h; simp [h])
  have g2 : ∀ j (h : j < its2.toArray.size), ∃ t, its2.toArray[j] = .int (ms.getD j 0) t := fun j h => i2.int_at _ _ (by simp at h; simp [h])
  have R := Ob.RcOp.tuples_ge (A := X.A) (s := s) (e := fun j => decide (ns.getD j 0 = ms.getD j 0)) (r := fun j => decide (ms.getD j 0 ≤ ns.getD j 0)) p1 p2 hu
    (fun j h1 h2 => by
      obtain ⟨t, et⟩ := g1 j h1
      obtain ⟨t', et'⟩ := g2 j h2
      rw [et, et', show decide (ns.getD j 0 = ms.getD j 0) = (ns.getD j 0 == ms.getD j 0) by rw [Bool.eq_iff_iff]; simp]
      exact SeqAt.EqAt.int_int _ _ _ _)
    (fun j h1 h2 _ => by
      obtain ⟨t, et⟩ := g1 j h1
      obtain ⟨t', et'⟩ := g2 j h2
      rw [et, et']
      exact Ob.RcOp.ge_int _ _ _ _)
  rw [l1, l2] at R
  exact R X.prog X.w X.xe _ ⟨.bl _, H, I, rfl, q⟩
theorem or_ge (hu : X.A.units < cLine) : OpR X (compareOp .GtE) (rGeD X.K) := OpR.or op_ge (op_geT hu)
theorem oi_ge : OpI X (rGeD X.K) geT := by
  intro cs B H x y d e z f g Q rx ry hz k
  unfold geT at hz
  split at hz
  · cases hz
    cases rx; cases ry
    exact .inl ⟨_, _, rfl, rfl, k _ (.bool _)⟩
  · split at hz
    · rename_i ns ms h1 h2
      cases hz
      obtain ⟨a, vs, rfl, hq, r1⟩ := (rx.seq).2 _ rfl
      obtain ⟨b, ws, rfl, hp, r2⟩ := (ry.seq).2 _ rfl
      rw [intsD_eq h1] at r1
      rw [intsD_eq h2] at r2
      rw [r1.ints] at hq
      rw [r2.ints] at hp
      exact .inr ⟨a, b, ns, ms, rfl, rfl, hq, hp, k _ (.bool _)⟩
    · cases hz
  · cases hz
end
end DL
namespace DL
open PySem L2
/-! ### how often 'mark' stands in a text -/
def mkC : List Nat := [39, 109, 97, 114, 107, 39]
def mkS : Str := "'mark'"
theorem mkS_cps : mkS.cps.toList = mkC := by decide +kernel
theorem mkS_len : mkS.length = 6 := by decide +kernel
theorem mark_at {x : Str} {i : Nat} (h : StrLaws.At x mkS x.length i) : x.cps.toList[i + 1]? = some 109 := by
  have h2 := h.2
  rw [StrLaws.subAt_eq, mkS_len, mkS_cps, beq_iff_eq] at h2
  have h3 : ((x.cps.toList.drop i).take 6)[1]? = mkC[1]? := by rw [h2]
  rw [List.getElem?_take_of_lt (by decide), List.getElem?_drop] at h3
  rw [h3]; rfl
theorem count_mark {x : Str} {A B : List Nat} (h : x.cps.toList = A ++ (mkC ++ B)) (ha : 109 ∉ A) (hb : 109 ∉ B) : Txt.count x mkS = 1 := by
  have uni : ∀ i, StrLaws.At x mkS x.length i → i = A.length := fun i hi => by
    have := mark_at hi
    rw [h] at this
    by_cases h1 : i + 1 < A.length
    · rw [List.getElem?_append_left h1] at this
      exact (ha (List.mem_of_getElem? this)).elim
    · rw [List.getElem?_append_right (by omega)] at this
      by_cases h2 : i + 1 - A.length < 6
      · rw [List.getElem?_append_left h2] at this
        have hc : i + 1 - A.length = 0 ∨ i + 1 - A.length = 1 ∨ i + 1 - A.length = 2 ∨ i + 1 - A.length = 3 ∨ i + 1 - A.length = 4 ∨ i + 1 - A.length = 5 := by omega
        rcases hc with e | e | e | e | e | e <;> rw [e] at this <;> first | omega | (simp [mkC] at this)
      · rw [List.getElem?_append_right (by show mkC.length ≤ _; simp only [mkC, List.length_cons, List.length_nil]; omega)] at this
        exact (hb (List.mem_of_getElem? this)).elim
  have hlen : x.length = A.length + (6 + B.length) := by
    have : x.length = x.cps.toList.length := by simp [Str.length]
    rw [this, h, List.length_append, List.length_append]; rfl
  have is : StrLaws.At x mkS x.length A.length := by
    refine ⟨by rw [mkS_len]; omega, ?_⟩
    rw [StrLaws.subAt_eq, mkS_len, mkS_cps, beq_iff_eq, h, List.drop_left]
    show List.take mkC.length (mkC ++ B) = mkC; exact List.take_left
  obtain ⟨f, hG, hn⟩ := StrLaws.occ_tight x mkS (by decide +kernel)
  unfold Txt.count
  generalize Builtin.Str.occurrences x mkS 0 x.length (x.length + 1) = cuts at hG
  cases cuts with
  | nil =>
    have e : f = 0 := hG
    exact (hn A.length (by omega) is).elim
  | cons c r =>
    obtain ⟨h1, h2, h3, h4⟩ := hG
    have hc := uni c h2
    cases r with
    | nil => rfl
    | cons c2 r2 =>
      obtain ⟨g1, g2, g3, g4⟩ := h4
      have := uni c2 g2
      rw [mkS_len] at g1
      omega
/-- no m in the text -/
def NoM (x : Str) : Prop := 109 ∉ x.cps.toList
/-- 'mark' once, no other m -/
def OneM (x : Str) : Prop := ∃ A B, x.cps.toList = A ++ (mkC ++ B) ∧ 109 ∉ A ∧ 109 ∉ B
theorem OneM.count {x : Str} (h : OneM x) : Txt.count x mkS = 1 := by
  obtain ⟨A, B, h, ha, hb⟩ := h
  exact count_mark h ha hb
theorem NoM.app {x y : Str} (h : NoM x) (k : NoM y) : NoM (x ++ y) := fun m => by
  rcases PyProof.Rows.mem_cps_append.mp m with m | m
  · exact h m
  · exact k m
theorem OneM.appR {x y : Str} (h : OneM x) (k : NoM y) : OneM (x ++ y) := by
  obtain ⟨A, B, h, ha, hb⟩ := h
  refine ⟨A, B ++ y.cps.toList, by rw [PyProof.Rows.cps_toList_append, h]; simp, ha, fun m => ?_⟩
  rcases List.mem_append.mp m with m | m
  · exact hb m
  · exact k m
theorem OneM.appL {x y : Str} (k : NoM y) (h : OneM x) : OneM (y ++ x) := by
  obtain ⟨A, B, h, ha, hb⟩ := h
  refine ⟨y.cps.toList ++ A, B, by rw [PyProof.Rows.cps_toList_append, h]; simp, fun m => ?_, hb⟩
  rcases List.mem_append.mp m with m | m
  · exact k m
  · exact ha m
theorem OneM.mk : OneM mkS := ⟨[], [], by rw [mkS_cps]; rfl, by simp, by simp⟩
def sepS : Str := ", "
theorem sep_no : NoM sepS := by unfold NoM; decide +kernel
theorem join_no : ∀ {ts : List Str}, (∀ t ∈ ts, NoM t) → NoM (Str.join sepS ts)
  | [], _ => by rw [PyProof.Rows.join_nil]; unfold NoM; decide
  | [x], h => by rw [PyProof.Rows.join_one]; exact h x (by simp)
  | x :: y :: r, h => by
    rw [PyProof.Rows.join_cons_cons]
    exact ((h x (by simp)).app sep_no).app (join_no (ts := y :: r) fun t ht => h t (List.mem_cons_of_mem _ ht))
theorem join_one' {x : Str} (hx : OneM x) : ∀ {a b : List Str}, (∀ t ∈ a, NoM t) → (∀ t ∈ b, NoM t) → OneM (Str.join sepS (a ++ x :: b))
  | [], [], _, _ => by rw [List.nil_append, PyProof.Rows.join_one]; exact hx
  | [], y :: b, _, hb => by
    rw [List.nil_append, PyProof.Rows.join_cons_cons]
    exact (hx.appR sep_no).appR (join_no hb)
  | [z], b, ha, hb => by
    rw [List.singleton_append, PyProof.Rows.join_cons_cons]
    have ih := join_one' hx (a := []) (b := b) (by simp) hb
    rw [List.nil_append] at ih
    exact OneM.appL ((ha z (by simp)).app sep_no) ih
  | z :: z2 :: a, b, ha, hb => by
    rw [List.cons_append, List.cons_append, PyProof.Rows.join_cons_cons]
    have ih := join_one' hx (a := z2 :: a) (b := b) (fun t ht => ha t (List.mem_cons_of_mem _ ht)) hb
    rw [List.cons_append] at ih
    exact OneM.appL ((ha z (by simp)).app sep_no) ih
theorem shownAll_map (xs : List PyData) : PyData.shownAll xs = xs.map PyData.shown := by
  induction xs with
  | nil => rw [PyData.shownAll_nil]; rfl
  | cons x xs ih => rw [PyData.shownAll_cons, ih]; rfl
theorem list_no {xs : List PyData} (h : ∀ x ∈ xs, NoM x.shown) : NoM (PyData.list xs).shown := by
  rw [PyData.shown_list, shownAll_map]
  refine (NoM.app (by unfold NoM; decide +kernel) (join_no fun t ht => ?_)).app (by unfold NoM; decide +kernel)
  obtain ⟨x, hx, rfl⟩ := List.mem_map.mp ht
  exact h x hx
theorem tuple_no {xs : List PyData} (h : ∀ x ∈ xs, NoM x.shown) : NoM (PyData.tuple xs).shown := by
  rw [PyData.shown_tuple, shownAll_map]
  refine (NoM.app (by unfold NoM; decide +kernel) (join_no fun t ht => ?_)).app (by split <;> (unfold NoM; decide +kernel))
  obtain ⟨x, hx, rfl⟩ := List.mem_map.mp ht
  exact h x hx
theorem list_one {x : PyData} {a b : List PyData} (hx : OneM x.shown) (ha : ∀ y ∈ a, NoM y.shown) (hb : ∀ y ∈ b, NoM y.shown) : OneM (PyData.list (a ++ x :: b)).shown := by
  rw [PyData.shown_list, shownAll_map, List.map_append, List.map_cons]
  refine (OneM.appL (by unfold NoM; decide +kernel) (join_one' hx (fun t ht => ?_) fun t ht => ?_)).appR (by unfold NoM; decide +kernel)
  · obtain ⟨y, hy, rfl⟩ := List.mem_map.mp ht
    exact ha y hy
  · obtain ⟨y, hy, rfl⟩ := List.mem_map.mp ht
    exact hb y hy
theorem tuple_one {x : PyData} {a b : List PyData} (hx : OneM x.shown) (ha : ∀ y ∈ a, NoM y.shown) (hb : ∀ y ∈ b, NoM y.shown) : OneM (PyData.tuple (a ++ x :: b)).shown := by
  rw [PyData.shown_tuple, shownAll_map, List.map_append, List.map_cons]
  refine (OneM.appL (by unfold NoM; decide +kernel) (join_one' hx (fun t ht => ?_) fun t ht => ?_)).appR (by split <;> (unfold NoM; decide +kernel))
  · obtain ⟨y, hy, rfl⟩ := List.mem_map.mp ht
    exact ha y hy
  · obtain ⟨y, hy, rfl⟩ := List.mem_map.mp ht
    exact hb y hy
theorem int_no (i : Int) : NoM (PyData.int i).shown := PyProof.Rows.shown_int_free' ⟨by decide, by decide⟩ i
theorem bool_no (b : Bool) : NoM (PyData.bool b).shown := by
  rw [PyData.shown_bool]; cases b <;> (unfold NoM; decide +kernel)
theorem none_no : NoM (PyData.none).shown := by
  rw [PyData.shown_none]; unfold NoM; decide +kernel
theorem mark_one : OneM (PyData.str "mark").shown := by
  have : (PyData.str "mark").shown = mkS := by decide +kernel
  rw [this]; exact OneM.mk
end DL
namespace DL
open PySem L2 PyProof.Rows PySem.Spec
/-! ### len(set(..)) of ints -/
/-- each once, by the first time -/
def onceI (ns : List Int) : List Int := PyProof.Rows.firstMet (fun j => ns.getD j 0) ns.length
def tLs (K : PySem.W.Frag) (ta : TE) : TE := fun σ H Q => ta σ H fun x H1 => ∃ (ad : Addr) (ns : List Int), x = .ref ad ∧ SqL K H1 ad (ns.map V.int) ∧ ns.length ≤ 4000 ∧ Q (.int ((onceI ns).length : Nat)) H1
theorem pe_ls {X : Cx} {e : Expr} {te : TE} {x1 x2 x3 x4 : Pos} (gl : Gl X "len") (ml : X.mg "len" = none) (gs : Gl X "set") (ms : X.mg "set" = none) (he : PE X e te) (calm : X.calm = true := by rfl)
    (one : starEach [e] X.env = (false, eval e X.env) :: starEach [] X.env := by rfl) : PE X (.Call (.Name "len" x1) [.Call (.Name "set" x2) [e] [] x3] [] x4) (tLs X.K te) := by
  constructor
  intro pins st σ H Q I hyp
  refine Call_ (ld_blt I gl ml (u := .builtin "len") (by decide +kernel) ?_)
  refine callWith_builtin1 (args_cons ?_ rfl) rfl rfl
  refine Call_ (ld_blt I gs ms (u := .type "set") (by decide +kernel) ?_)
  refine callWith_type1 (args_cons ?_ one) one rfl
  refine thn (he.run pins st σ H _ I hyp) ?_
  rintro v s1 ⟨x, H1, J, rx, ad, ns, rfl, sq, small, done⟩
  refine args_nil ?_
  cases rx
  obtain ⟨its, vals, lst, _⟩ := J.list sq
  have size : its.toArray.size = ns.length := by simp [← vals.length]
  refine call_set_list (J.ok.hd calm) lst.isList (by simpa using RZ.intsAre_vals vals) ?_ ?_
  · rw [size]; unfold scanBound; omega
  · intro h2 tk made old
    refine args_nil ?_
    rw [size] at made
    obtain ⟨ob, es, ep, tb, look, exact', dat, _, _, _, full, num⟩ := made
    have J2 : Inv X pins σ H1 { s1 with heap := h2, toks := tk } := J.kept fun b o eb => old b o (Heap.lt_size eb) eb
    have few : (onceI ns).length ≤ ns.length := PyProof.Rows.firstMet_length_le _ _
    have num' : _ = (onceI ns).length := num
    refine call_len_set look exact' dat full (by rw [num'] <;> omega) ?_
    exact ⟨.int (onceI ns).length, H1, J2.tok _, ⟨_, by rw [num']⟩, done⟩
def lsetM (m : M It) : M It := bnd m fun i s => match i.ato s with
  | some d => match intsOf d with
    | some ns => if ns.length ≤ 4000 then some (.ok (.val (.int ((onceI ns).length : Nat))), s) else none
    | none => none
  | none => none
variable {X : Cx} {W : WX}
theorem dLs {e : Expr} {x1 x2 x3 x4 : Pos} {m : M It} (gl : Gl X "len") (ml : X.mg "len" = none) (gs : Gl X "set") (ms : X.mg "set" = none) (he : PE X e (TD X W m)) (calm : X.calm = true := by rfl)
    (one : starEach [e] X.env = (false, eval e X.env) :: starEach [] X.env := by rfl) : PE X (.Call (.Name "len" x1) [.Call (.Name "set" x2) [e] [] x3] [] x4) (TD X W (lsetM m)) :=
  PE.imp (pe_ls gl ml gs ms he calm one) fun σ H Q ⟨Γ, cs, s, T, Fs, Ft, hK, hM, g, a⟩ => TD.go hK hM g (a.bnd.mono fun i s1 a1 v H1 cs1 Fs1 Ft1 g1 => by
    split at a1
    · rename_i d hd
      split at a1
      · rename_i ns hn
        split at a1
        · rename_i hl
          obtain ⟨f, r⟩ := g1.looko hd
          obtain ⟨ad, rfl, sq⟩ := r.intsOf hn
          obtain ⟨Ft2, g2⟩ := g1.pop
          exact ⟨ad, ns, rfl, by rw [← hK]; exact sq, hl, a1 _ H1 cs1 Fs1 Ft2 (g2.push0 (.int _))⟩
        · exact a1.elim
      · exact a1.elim
    · exact a1.elim)
end DL
namespace DL
open PySem L2 PyProof.Rows PySem.Spec
/-! ### sum(lists, a list) -/
section
variable {prog : Program} {w : World} {A : Around} {R : Result → Shared → Prop} {I : Addr} {fp wr : List Addr} {n : Nat} {P : Nat → Value → Prop} {St : Nat → Heap → Prop}
/-- what is summed from i on, k of them -/
def flatI (its : Nat → List Value) (i : Nat) : Nat → List Value
  | 0 => []
  | k + 1 => its i ++ flatI its (i + 1) k
theorem sumLists_loop (W : Walks prog w A.in1 I fp wr n P St) (val : Nat → Addr) (its : Nat → List Value) (nn : Nat → Nat) (hval : ∀ i v, P i v → v = .ref (val i)) (S : Addr) (hSf : S ∉ fp) :
    ∀ (k i : Nat) (s : Shared) (T : Addr) (acc : List Value) (nT c : Nat), n - i = k → i ≤ n → St i s.heap → T ∉ wr → T ≠ S → (∀ j, i ≤ j → j < n → val j ∉ wr ∧ val j ≠ S ∧ PySem.IsL s.heap (val j) (its j).toArray (nn j)) →
    (∀ b ∈ wr, b < s.heap.objs.size) → (S + 1 = s.heap.objs.size ∨ T + 1 = s.heap.objs.size) → acc.length + (flatI its i k).length ≤ sizeLine →
    PySem.IsL s.heap T acc.toArray nT → s.heap.get? S = some { cls := .type "list", dict := none, data := .seq #[.ref T] c, slots := #[] } →
    (∀ h' tk T' n', (∀ b o, b ∉ wr → b ≠ S → s.heap.get? b = some o → h'.get? b = some o) → (k = 0 → T' = T) → (0 < k → s.heap.objs.size ≤ T' ∧ PySem.IsL h' T' (acc ++ flatI its i k).toArray n') → R (.ok (.ret (.ref T'))) { s with heap := h', toks := tk }) →
    codeAny (model prog w) A (.builtin "sum.loop" ⟨[.ref I, .ref S, rawInt 2, rawInt 0], []⟩) R s := by
  have hSw : S ∉ wr := fun h => hSf (W.sub _ h)
  intro k
  induction k with
  | zero =>
    intro i s T acc nT c hk hi hst hTw hTS hv hwr htop hsz hT hS hR
    have hin : i = n := by omega
    subst hin
    refine codeAny_builtin F.entry_sum_loop ?_
    rw [Around.under_plainId F.plain_sum_loop _]
    show wpAny _ A.in1 (seqItems? (.ref S) >>= _) _ _ s
    refine wpAny_bind (wpAny_seqItems hS rfl ?_)
    show wpAny _ A.in1 (tryCatch (pyNext (.ref I)) _ >>= _) _ _ s
    refine wpAny_bind (wpAny_tryCatch (W.done s _ _ hst fun h' tk hk' => ?_))
    exact wpAny_pure (hR h' tk T 0 (fun b o hbw _ e => hk' b o hbw e) (fun _ => rfl) (fun h => absurd h (by omega)))
  | succ k ih =>
    intro i s T acc nT c hk hi hst hTw hTS hv hwr htop hsz hT hS hR
    have hlt : i < n := by omega
    refine codeAny_builtin F.entry_sum_loop ?_
    rw [Around.under_plainId F.plain_sum_loop _]
    show wpAny _ A.in1 (seqItems? (.ref S) >>= _) _ _ s
    refine wpAny_bind (wpAny_seqItems hS rfl ?_)
    show wpAny _ A.in1 (tryCatch (pyNext (.ref I)) _ >>= _) _ _ s
    refine wpAny_bind (wpAny_tryCatch (W.item i s _ _ hlt hst fun v h' tk hP hst' hk' => ?_))
    obtain rfl := hval i v hP
    have hS' := hk' S _ hSw hS
    have hT' : PySem.IsL h' T acc.toArray nT := hk' T _ hTw hT
    obtain ⟨v1, v2, v3⟩ := hv i (Nat.le_refl i) hlt
    have hV' : PySem.IsL h' (val i) (its i).toArray (nn i) := hk' _ _ v1 v3
    have hsz' : acc.length + (its i).length ≤ sizeLine := by
      have : (flatI its i (k + 1)).length = (its i).length + (flatI its (i + 1) k).length := by simp [flatI]
      omega
    show wpAny _ A.in1 ((holding [Value.ref (val i)] (binaryOp .Add (.ref T) (.ref (val i)))).attempt >>= _) _ _ _
    refine wpAny_bind (wpAny_attempt (wpAny_holding (PySem.P.add_list hT' hV' ?_ (by simpa using hsz'))))
    have hS1 : (h'.push { cls := .type "list", data := .seq (acc.toArray ++ (its i).toArray) }).get? S = some _ := Heap.get?_push_of_some _ hS'
    have hSlt : S < h'.objs.size := Heap.lt_size hS'
    show wpAny _ A.in1 (updateSeq S (fun _ => #[.ref h'.objs.size]) >>= _) _ _ _
    refine wpAny_bind ?_
    refine wpAny_updateSeq hS1 rfl ?_
    have hS2 := Heap.get?_update_self (Obj.mapSeq fun _ => #[Value.ref h'.objs.size]) hS1 rfl
    refine wpAny_bind (wpAny_letGo ?_)
    refine wpAny_bind ?_
    have keep : ∀ b o, b ≠ S → h'.get? b = some o → ((((h'.push { cls := .type "list", data := .seq (acc.toArray ++ (its i).toArray) }).update S (Obj.mapSeq fun _ => #[Value.ref h'.objs.size])).update S (Obj.mapSeq fun _ => #[Value.ref h'.objs.size])).get? b = some o) := fun b o hb e =>
      (Heap.get?_update_other _ _ (Ne.symm hb)).trans ((Heap.get?_update_other _ _ (Ne.symm hb)).trans (Heap.get?_push_of_some _ e))
    have hlast : h'.objs.size ≠ S := Nat.ne_of_gt hSlt
    have hge : s.heap.objs.size ≤ h'.objs.size := by
      have := Heap.lt_size hT'
      rcases htop with e | e
      · exact Nat.le_trans (Nat.le_of_eq e.symm) hSlt
      · exact Nat.le_trans (Nat.le_of_eq e.symm) this
    have hsize : (((h'.push { cls := .type "list", data := .seq (acc.toArray ++ (its i).toArray) }).update S (Obj.mapSeq fun _ => #[Value.ref h'.objs.size])).update S (Obj.mapSeq fun _ => #[Value.ref h'.objs.size])).objs.size = h'.objs.size + 1 := by
      rw [Heap.size_update, Heap.size_update, Heap.size_push]
    refine wpAny_updateSeq hS2 rfl (wpAny_pure ⟨plainId_quiet F.plain_sum_loop _, ih (i + 1) _ h'.objs.size (acc ++ its i) 0 _ (by omega) hlt (W.frame _ _ _ hst' fun b hb o e => keep b o (fun h => hSf (by rw [← h]; exact hb)) e) ?_ hlast ?_ ?_ (.inr hsize.symm) ?_ ?_ (Heap.get?_update_self _ hS2 rfl) ?_⟩)
    · intro hm
      exact absurd (hwr _ hm) (Nat.not_lt.mpr hge)
    · intro j hj hjn
      obtain ⟨u1, u2, u3⟩ := hv j (by omega) hjn
      exact ⟨u1, u2, keep _ _ u2 (hk' _ _ u1 u3)⟩
    · intro b hb
      show b < _
      rw [hsize]; exact Nat.lt_succ_of_le (Nat.le_trans (Nat.le_of_lt (hwr b hb)) hge)
    · have : (flatI its i (k + 1)).length = (its i).length + (flatI its (i + 1) k).length := by simp [flatI]
      rw [List.length_append]; omega
    · have e : acc.toArray ++ (its i).toArray = (acc ++ its i).toArray := by simp
      rw [← e]
      exact (Heap.get?_update_other _ _ (Ne.symm hlast)).trans ((Heap.get?_update_other _ _ (Ne.symm hlast)).trans (Heap.get?_push_size _ rfl))
    · intro h'' tk'' T'' n'' hk'' h0 h1
      refine hR h'' tk'' T'' (if k = 0 then 0 else n'') (fun b o hbw hbS e => hk'' b o hbw hbS (keep b o hbS (hk' b o hbw e))) (fun h => absurd h (by omega)) fun _ => ?_
      refine ⟨?_, ?_⟩
      · by_cases hk0 : k = 0
        · rw [h0 hk0]; exact hge
        · have := (h1 (by omega)).1
          have e2 : ({ s with heap := ((h'.push { cls := .type "list", data := .seq (acc.toArray ++ (its i).toArray) }).update S (Obj.mapSeq fun _ => #[Value.ref h'.objs.size])).update S (Obj.mapSeq fun _ => #[Value.ref h'.objs.size]) } : Shared).heap.objs.size = h'.objs.size + 1 := hsize
          exact Nat.le_trans hge (Nat.le_trans (Nat.le_succ _) (Nat.le_trans (Nat.le_of_eq hsize.symm) this))
      · by_cases hk0 : k = 0
        · subst hk0
          rw [h0 rfl, if_pos rfl]
          have e : acc.toArray ++ (its i).toArray = (acc ++ flatI its i 1).toArray := by simp [flatI]
          rw [← e]
          refine hk'' _ _ ?_ hlast ((Heap.get?_update_other _ _ (Ne.symm hlast)).trans ((Heap.get?_update_other _ _ (Ne.symm hlast)).trans (Heap.get?_push_size _ rfl)))
          intro hm
          exact absurd (hwr _ hm) (Nat.not_lt.mpr hge)
        · rw [if_neg hk0]
          have := (h1 (by omega)).2
          rw [List.append_assoc] at this
          exact this
end
end DL
namespace DL
open PySem L2 PyProof.Rows PySem.Spec
section
variable {prog : Program} {w : World} {A : Around} {E : Value → Shared → Prop} {s : Shared}
theorem args_sum2 (a b : Value) : argsOk "sum" ⟨[a, b], []⟩ := by unfold argsOk; kernel_rfl
theorem subL_str : isSubtype (.type "list") (.type "str") = pure false := by rw [isSubtype_type]; kernel_rfl
theorem subL_bytes : isSubtype (.type "list") (.type "bytes") = pure false := by rw [isSubtype_type]; kernel_rfl
theorem subL_bytearray : isSubtype (.type "list") (.type "bytearray") = pure false := by rw [isSubtype_type]; kernel_rfl
theorem call_sumLists {l T : Addr} {items : Array Value} {val : Nat → Addr} {its : Nat → List Value} {nn : Nat → Nat} {acc : List Value} {nT : Nat} {Q : Value → Shared → Prop} (hh : A.handled = none) (hl : s.heap.IsList l items) (hv : ∀ (i : Nat) (v : Value), items[i]? = some v → v = .ref (val i))
    (hT : PySem.IsL s.heap T acc.toArray nT) (hi : ∀ j, j < items.size → PySem.IsL s.heap (val j) (its j).toArray (nn j)) (hsz : acc.length + (flatI its 0 items.size).length ≤ sizeLine)
    (h : ∀ h' tk T' n', (∀ b o, s.heap.get? b = some o → h'.get? b = some o) → (items.size = 0 → T' = T) → (0 < items.size → s.heap.objs.size ≤ T' ∧ PySem.IsL h' T' (acc ++ flatI its 0 items.size).toArray n') → Q (.ref T') { s with heap := h', toks := tk }) :
    wpAny (model prog w) A (PySem.call (.builtin "sum") [.ref l, .ref T]) Q E s := by
  refine call_function_tree F.kind_sum F.plain_sum F.entry_sum (args_sum2 _ _) ?_
  unfold Builtin.«sum»
  simp only [List.length_cons, List.length_nil]
  rw [if_neg (by decide)]
  refine wpAny_bind (wpAny_of_eq (show Builtin.Builtins.bindParams "sum" ["start"] 0 ⟨[.ref T], []⟩ = pure [some (.ref T)] from rfl) ?_)
  have hlt : l < s.heap.objs.size := by obtain ⟨_, e, _⟩ := hl; exact Heap.lt_size e
  refine wpAny_bind (wpAny_pyIter_list hl ?_)
  refine wpAny_bind (wpAny_pure ?_)
  have hTp : ∀ o, (s.heap.push o).get? T = some { cls := .type "list", data := .seq acc.toArray nT } := fun o => Heap.get?_push_of_some _ hT
  simp only [List.forIn_cons, List.forIn_nil]
  refine wpAny_bind (wpAny_bind (wpAny_bind (wpAny_isInstance (T := "list") (b := false) ⟨_, hTp _, rfl⟩ subL_str ?_)))
  simp only [Bool.false_eq_true, if_false]
  refine wpAny_pure (wpAny_bind (wpAny_bind (wpAny_isInstance (T := "list") (b := false) ⟨_, hTp _, rfl⟩ subL_bytes ?_)))
  simp only [Bool.false_eq_true, if_false]
  refine wpAny_pure (wpAny_bind (wpAny_bind (wpAny_isInstance (T := "list") (b := false) ⟨_, hTp _, rfl⟩ subL_bytearray ?_)))
  simp only [Bool.false_eq_true, if_false]
  refine wpAny_pure (wpAny_pure ?_)
  refine wpAny_bind (wpAny_newObj_type ?_)
  have hTlt : T < s.heap.objs.size := Heap.lt_size hT
  have hsz1 : (s.heap.push { cls := .type "list_iterator", data := .fields #[.ref l, .int 0 0] }).objs.size = s.heap.objs.size + 1 := Heap.size_push _ _
  refine wpAny_pure ⟨plainId_quiet F.plain_sum_loop _, sumLists_loop (Walks.list (A := A.in1) hh s.heap.objs.size l (Nat.ne_of_lt hlt) items) val its nn hv _ ?_ items.size 0 _ T acc nT 0 (by omega) (Nat.zero_le _) ⟨⟨_, Heap.get?_push_of_some _ (Heap.get?_push_size _ rfl), rfl, rfl⟩, (hl.push _).push _⟩ ?_ ?_ (fun j _ hj => ?_) ?_ (.inl ?_) (by simpa using hsz) ?_ (Heap.get?_push_size _ rfl) fun h' tk T' n' k1 k2 k3 => ?_⟩
  · intro hm
    rcases List.mem_cons.mp hm with e | hm
    · exact absurd (hsz1.symm.trans e) (Nat.succ_ne_self _)
    · rcases List.mem_cons.mp hm with e | hm
      · have h2 := hsz1.symm.trans e
        exact absurd hlt (Nat.not_lt.mpr (Nat.le_trans (Nat.le_succ _) (Nat.le_of_eq h2)))
      · cases hm
  · intro hm
    rcases List.mem_cons.mp hm with e | hm
    · exact absurd e (Nat.ne_of_lt hTlt)
    · cases hm
  · exact Nat.ne_of_lt (Nat.lt_of_lt_of_le hTlt (Nat.le_trans (Nat.le_succ _) (Nat.le_of_eq hsz1.symm)))
  · have hj' := hi j hj
    have hjlt : val j < s.heap.objs.size := Heap.lt_size hj'
    refine ⟨fun hm => ?_, Nat.ne_of_lt (Nat.lt_of_lt_of_le hjlt (Nat.le_trans (Nat.le_succ _) (Nat.le_of_eq hsz1.symm))), Heap.get?_push_of_some _ (Heap.get?_push_of_some _ hj')⟩
    rcases List.mem_cons.mp hm with e | hm
    · exact absurd e (Nat.ne_of_lt hjlt)
    · cases hm
  · intro b hb
    rcases List.mem_cons.mp hb with e | hb
    · rw [e]
      show _ < ((s.heap.push _).push _).objs.size
      rw [Heap.size_push, Heap.size_push]
      exact Nat.lt_succ_of_lt (Nat.lt_succ_self _)
    · cases hb
  · show (s.heap.push _).objs.size + 1 = ((s.heap.push _).push _).objs.size
    rw [Heap.size_push, Heap.size_push, Heap.size_push]
  · exact Heap.get?_push_of_some _ (Heap.get?_push_of_some _ hT)
  · refine h h' tk T' n' (fun b o e => k1 b o ?_ ?_ (Heap.get?_push_of_some _ (Heap.get?_push_of_some _ e))) k2 fun hp => ?_
    · intro hm
      rcases List.mem_cons.mp hm with e' | hm
      · exact absurd e' (Nat.ne_of_lt (Heap.lt_size e))
      · cases hm
    · exact Nat.ne_of_lt (Nat.lt_of_lt_of_le (Heap.lt_size e) (Nat.le_trans (Nat.le_succ _) (Nat.le_of_eq hsz1.symm)))
    · obtain ⟨q1, q2⟩ := k3 hp
      refine ⟨Nat.le_trans ?_ q1, q2⟩
      show s.heap.objs.size ≤ ((s.heap.push _).push _).objs.size
      rw [Heap.size_push, Heap.size_push]
      exact Nat.le_trans (Nat.le_succ _) (Nat.le_succ _)
end
end DL
namespace DL
open PySem L2 PyProof.Rows PySem.Spec
/-- sum(lists, a list) -/
def rSumL (K : PySem.W.Frag) : List V → Hp → VK → Prop := fun vs H Q => ∃ (l T : Addr) (xs ys : List V) (zs : List (List V)), vs = [V.ref l, V.ref T] ∧ SqL K H l xs ∧ H T = some (.lst ys) ∧ xs.length = zs.length ∧
  (∀ (i : Nat) (x : V) (z : List V), xs[i]? = some x → zs[i]? = some z → ∃ a, x = V.ref a ∧ H a = some (.lst z)) ∧ ys.length + zs.flatten.length ≤ sizeLine ∧
  (xs = [] → Q (.ref T) H) ∧ (xs ≠ [] → ∀ p, H p = none → Q (.ref p) (upd H p (.lst (ys ++ zs.flatten))))
section
variable {X : Cx}
theorem vals_at {xs : List V} {us : List Value} (r : Vals xs us) : ∀ (i : Nat) (u : Value), us[i]? = some u → ∃ x, xs[i]? = some x ∧ L2.RelV x u := by
  induction r with
  | nil => intro i u h; simp at h
  | cons r t ih =>
    intro i u h
    cases i with
    | zero => simp at h; subst h; exact ⟨_, rfl, r⟩
    | succ i => exact ih i u (by simpa using h)
theorem flat_vals {zs : List (List V)} {its : Nat → List Value} (h : ∀ (i : Nat) (z : List V), zs[i]? = some z → Vals z (its i)) : ∀ (k i : Nat), i + k = zs.length → Vals (zs.drop i).flatten (flatI its i k)
  | 0, i, hk => by
    rw [List.drop_eq_nil_of_le (by omega)]
    exact .nil
  | k + 1, i, hk => by
    have hi : i < zs.length := by omega
    rw [List.drop_eq_getElem_cons hi, List.flatten_cons]
    exact (h i zs[i] (List.getElem?_eq_getElem hi)).append (flat_vals h k (i + 1) (by omega))
theorem cr_sumL (hc : X.calm = true) : CallR X (.builtin "sum") (rSumL X.K) := by
  intro pins s σ H vs us Q I r h
  obtain ⟨l, T, xs, ys, zs, rfl, hs, hT, hlen, hz, hsz, q0, q1⟩ := h
  have hus : us = [Value.ref l, Value.ref T] := by
    cases r with
    | cons r t =>
      cases t with
      | cons r2 t2 => cases t2; cases r; cases r2; rfl
  subst hus
  obtain ⟨its, rv, hl, _⟩ := I.list hs
  obtain ⟨_, itT, nT, rT, lT, eT⟩ := I.lstM hT
  have hil : its.length = xs.length := rv.length.symm
  have hex : ∀ i : Nat, ∃ y : Addr × List Value × Nat, ∀ z, zs[i]? = some z → (xs[i]? = some (V.ref y.1)) ∧ Vals z y.2.1 ∧ PySem.IsL s.heap y.1 y.2.1.toArray y.2.2 := by
    intro i
    by_cases hi : i < zs.length
    · have hi2 : i < xs.length := by omega
      obtain ⟨a, ea, ha⟩ := hz i xs[i] zs[i] (List.getElem?_eq_getElem hi2) (List.getElem?_eq_getElem hi)
      obtain ⟨_, it, n, rr, _, e⟩ := I.lstM ha
      refine ⟨(a, it, n), fun z hz' => ?_⟩
      rw [List.getElem?_eq_getElem hi] at hz'
      cases hz'
      exact ⟨by rw [List.getElem?_eq_getElem hi2, ea], rr, e⟩
    · refine ⟨(0, [], 0), fun z hz' => ?_⟩
      rw [List.getElem?_eq_none (by omega)] at hz'
      cases hz'
  obtain ⟨f, hf⟩ := Classical.axiomOfChoice hex
  have hfl : Vals zs.flatten (flatI (fun i => (f i).2.1) 0 its.length) := by
    have := flat_vals (zs := zs) (its := fun i => (f i).2.1) (fun i z hz' => (hf i z hz').2.1) its.length 0 (by omega)
    simpa using this
  refine call_sumLists (val := fun i => (f i).1) (its := fun i => (f i).2.1) (nn := fun i => (f i).2.2) (acc := itT) (I.ok.hd hc) hl.isList (fun i v hv => ?_) eT (fun j hj => ?_) ?_ fun h' tk T' n' hk k0 k1 => ?_
  · have hv' : its[i]? = some v := by simpa using hv
    obtain ⟨x, hx, rx⟩ := vals_at rv i v hv'
    have hi : i < zs.length := by have := (List.getElem?_eq_some_iff.mp hx).1; omega
    have := (hf i zs[i] (List.getElem?_eq_getElem hi)).1
    rw [hx] at this
    cases this
    exact rx
  · have hj' : j < zs.length := by simp at hj; omega
    exact (hf j zs[j] (List.getElem?_eq_getElem hj')).2.2
  · have e1 := hfl.length
    have : its.toArray.size = its.length := by simp
    rw [this, ← e1, ← lT]; exact hsz
  · have hsize : its.toArray.size = its.length := by simp
    rw [hsize] at k0 k1
    by_cases hx : xs = []
    · have : its.length = 0 := by rw [hil, hx]; rfl
      rw [k0 this]
      exact ⟨.ref T, H, I.kept hk, rfl, q0 hx⟩
    · have hpos : 0 < its.length := by rw [hil]; exact List.length_pos_iff.mpr hx
      obtain ⟨k2, k3⟩ := k1 hpos
      have hn : H T' = none := I.hok.fresh k2
      refine ⟨.ref T', upd H T' (.lst (ys ++ zs.flatten)), I.laid hk k2 ⟨by rw [List.length_append]; exact hsz, itT ++ flatI (fun i => (f i).2.1) 0 its.length, n', rT.append hfl, k3⟩, rfl, q1 hx T' hn⟩
def listsOf : List D → Option (List D)
  | [] => some []
  | .lst false z :: r => (listsOf r).map (z ++ ·)
  | _ :: _ => none
theorem Reps.lists_of {K : PySem.W.Frag} {mg : Str → Option Value} {cs B : List Addr} {H : Hp} : ∀ {xs : List V} {ds zs : List D}, Reps K mg cs B H xs ds [] → listsOf ds = some zs →
    ∃ vs : List (List V), xs.length = vs.length ∧ (∀ (i : Nat) (x : V) (z : List V), xs[i]? = some x → vs[i]? = some z → ∃ a, x = V.ref a ∧ H a = some (.lst z)) ∧ Reps K mg cs B H vs.flatten zs [] := by
  intro xs
  induction xs with
  | nil =>
    intro ds zs r h
    cases r
    cases h
    exact ⟨[], rfl, fun i x z hx => by simp at hx, .nil⟩
  | cons x xs ih =>
    intro ds zs r h
    generalize hfe : ([] : List Addr) = fe at r
    cases r with
    | cons r t =>
      rename_i d f ds g
      obtain ⟨rfl, rfl⟩ := List.append_eq_nil_iff.mp hfe.symm
      unfold listsOf at h
      split at h
      · rename_i heq; cases heq
      · rename_i z r' heq
        cases heq
        rw [Option.map_eq_some_iff] at h
        obtain ⟨zs', h1, rfl⟩ := h
        obtain ⟨vs, e1, e2, e3⟩ := ih t h1
        cases r with
        | lstS ha hn rs =>
          rename_i a ws
          refine ⟨ws :: vs, by simp [e1], fun i x z hx hz => ?_, by simpa using rs.append e3⟩
          cases i with
          | zero => simp at hx hz; subst hx; subst hz; exact ⟨a, rfl, ha⟩
          | succ i => exact e2 i x z (by simpa using hx) (by simpa using hz)
      · cases h
def sumLM (m : M (List It)) : M It := bnd m fun l s => match l with
  | [i, .val (.lst true [])] => match i.sate s with
    | some (.lst _ xs) => match listsOf xs with
      | some zs => if zs.length ≤ 16777216 then some (.ok (.val (.lst true zs)), s) else none
      | none => none
    | _ => none
  | _ => none
variable {W : WX}
theorem sumL_go {m : M (List It)} {σ : L2.St} {H : Hp} {Q : VK} (h : TD X W (sumLM m) σ H Q) : tCB (rSumL X.K) (TAs X W m) σ H Q := by
  obtain ⟨Γ, cs, s, T, Fs, Ft, hK, hM, g, a⟩ := h
  refine TAs.go hK hM g (a.bnd.mono fun l s1 a1 vs H1 cs1 Fs1 Ft1 hl g1 => ?_)
  split at a1
  · rename_i i
    split at a1
    · rename_i o xs hi
      split at a1
      · rename_i zs hz
        split at a1
        · rename_i hlz
          match vs, hl with
          | [v, w], _ =>
            obtain ⟨F2, g2, r, hs⟩ := g1.sate hi
            obtain ⟨p, ws, f, f', rfl, rfl, hp, rw', tw⟩ := g2.ownT
            obtain ⟨b, us, rfl, hb, ru⟩ := r.lstT
            obtain ⟨zv, e1, e2, e3⟩ := Reps.lists_of ru hz
            have hws : ws = [] := by cases rw'; rfl
            subst hws
            have lz : zv.flatten.length = zs.length := e3.length
            refine ⟨b, p, us, [], zv, rfl, .of hb, hp, e1, e2, by rw [lz, sizeLine_eq]; simpa using hlz, fun hu => ?_, fun hu q hq => ?_⟩
            · subst hu
              cases ru
              cases hz
              exact a1 _ H1 cs1 Fs1 _ g2
            · obtain ⟨F3, g3, hs3⟩ := g2.popS
              have ho : Out Γ.K Γ.mg cs1 (Fs1 ++ F3 ++ cs1 ++ Γ.G) H1 (.lst true zs) (.ref q) (upd H1 q (.lst zv.flatten)) := .lst hq (e3.on (W := []) (Stp.refl H1 _) (fun _ _ e => e) (fun a ha => .inl (by
                simp only [List.mem_append] at ha ⊢
                rcases ha with ((ha | ha) | ha) | ha
                · exact .inl (.inl (.inl ha))
                · exact .inl (.inl (.inr (by simpa [or_assoc] using hs3 a ha)))
                · exact .inl (.inr ha)
                · exact .inr ha)) fun _ h => nomatch h)
              obtain ⟨F4, g4⟩ := g3.out ho
              rw [List.nil_append]
              exact a1 _ _ cs1 Fs1 F4 g4
        · exact a1.elim
      · exact a1.elim
    · exact a1.elim
  · exact a1.elim
theorem dSumL {p pos : Pos} {e : Expr} {es : List Expr} {m : M (List It)} (hm : X.mg "sum" = none) (ha : PA X (e :: es) (TAs X W m)) (calm : X.calm = true := by rfl) (hg : Gl X "sum" := by rfl)
    (he : starEach (e :: es) X.env = (false, eval e X.env) :: starEach es X.env := by rfl) (hpl : (backTo pos (starEach es X.env)).any (·.1) = false := by rfl) : PE X (.Call (.Name "sum" p) (e :: es) [] pos) (TD X W (sumLM m)) :=
  PE.imp (pe_callB (cr_sumL calm) hg hm (by decide +kernel) ha (by decide) (by decide) he hpl) fun σ H Q q => sumL_go q
end
end DL
namespace DL
open PySem L2
/-! ### two owned lists become one: what they own goes along -/
section
variable {Γ : Gm} {cs : List Addr} {H : Hp} {σ : L2.St} {ρ : Env} {μ : Cells} {T : Tmp} {Fs Ft : List Addr}
theorem Good.openL {v : V} {ds : List D} (g : Good Γ cs H σ ρ μ ((v, .val (.lst true ds)) :: T) Fs Ft) : ∃ p xs Ft', v = .ref p ∧ H p = some (.lst xs) ∧ xs.length = ds.length ∧ Good Γ cs H σ ρ μ (vals xs ds ++ T) Fs Ft' := by
  obtain ⟨p, xs, f, f', rfl, rfl, hp, rs, t⟩ := g.ownT
  refine ⟨p, xs, f ++ f', rfl, hp, rs.length, ?_⟩
  exact g.pops (f := [p]) (by simp) (Temps.of_reps rs t)
end
section
variable {X : Cx} {W : WX}
def catMv (m n : M It) : M It := bnd m fun i => bnd n fun j s => match i, j with
  | .val (.lst true xs), .val (.lst true ys) => if xs.length + ys.length ≤ 16777216 then some (.ok (.val (.lst true (xs ++ ys))), s) else none
  | _, _ => none
theorem catMv_go {m n : M It} {σ : L2.St} {H : Hp} {Q : VK} (h : TD X W (catMv m n) σ H Q) : tOp rCat (TD X W m) (TD X W n) σ H Q := by
  obtain ⟨Γ, cs, s, T, Fs, Ft, hK, hM, g, a⟩ := h
  refine TD.go hK hM g (a.bnd.mono fun i s1 a1 v1 H1 cs1 Fs1 Ft1 g1 => ?_)
  refine TD.go hK hM g1 (a1.bnd.push.mono fun j s2 a2 v2 H2 cs2 Fs2 Ft2 g2 => ?_)
  split at a2
  · rename_i xs ys
    split at a2
    · rename_i hz
      obtain ⟨b, ws, F3, rfl, hb, lw, g3⟩ := g2.openL
      obtain ⟨F4, g4⟩ := g3.perm (U := (v1, .val (.lst true xs)) :: (vals ws ys ++ T)) (List.perm_middle)
      obtain ⟨p, us, F5, rfl, hp, lu, g5⟩ := g4.openL
      have hall : vals us xs ++ (vals ws ys ++ T) = vals (us ++ ws) (xs ++ ys) ++ T := by
        show List.zip us (xs.map It.val) ++ (List.zip ws (ys.map It.val) ++ T) = List.zip (us ++ ws) ((xs ++ ys).map It.val) ++ T
        rw [List.map_append, List.zip_append (by rw [List.length_map]; exact lu), List.append_assoc]
      rw [hall] at g5
      refine ⟨p, b, us, ws, rfl, rfl, hp, hb, by rw [sizeLine_eq, lu, lw]; exact hz, fun q hq => ?_⟩
      obtain ⟨F6, g6⟩ := g5.allocL (by rw [List.length_append, List.length_append, lu, lw]) hq
      exact a2 _ _ cs2 Fs2 F6 g6
    · exact a2.elim
  · exact a2.elim
theorem dCat {a b : Expr} {m n : M It} {pos : Pos} (h : PE X a (TD X W m)) (k : PE X b (TD X W n)) : PE X (.BinOp a .Add b pos) (TD X W (catMv m n)) :=
  PE.imp (pe_op op_cat h k) fun σ H Q q => catMv_go q
end
end DL
namespace DL
open PySem L2
/-! ### where in a list or a cell -/
section
variable {X : Cx} {W : WX}
def ixV (m : M It) (n : M (List It)) : M It := bnd m fun i s =>
  match i with
  | .val d => match DL.view d s.μ with
    | some _ => bnd n (fun l s => match vals? l, DL.view d s.μ with
      | some es, some ds => match idxO ds es with
        | some z => some (.ok (.val z), s)
        | none => none
      | _, _ => none) s
    | none => none
  | _ => none
theorem dIdxV {o e : Expr} {es : List Expr} {apos cpos : Pos} {m : M It} {n : M (List It)} (h : PE X o (TD X W m)) (ha : PA X (e :: es) (TAs X W n))
    (hbase : attributeBase o "index" X.env (eval o X.env) = eval o X.env := by rfl)
    (hfew : ((backTo cpos (starEach (e :: es) X.env)).all (fun x => !x.1) && (backToKw cpos (keywordEach [] X.env)).all (fun x => x.1.isSome)
      && decide ((e :: es).length + ([] : List Keyword).length + (if ([] : List Keyword).isEmpty then 0 else 1) < 30)) = true := by rfl)
    (hline : (apos.endLine == cpos.line) = true := by rfl) (hs : starEach (e :: es) X.env = (false, eval e X.env) :: starEach es X.env := by rfl) (hplain : (backTo cpos (starEach es X.env)).any (·.1) = false := by rfl) :
    PE X (.Call (.Attribute o "index" apos) (e :: es) [] cpos) (TD X W (ixV m n)) :=
  PE.imp (pe_bm PySem.F.plainAttrs_list PySem.F.slot_list_index PySem.F.type_list_index mt_index h ha hbase hfew hline hs hplain) fun σ H Q ⟨Γ, cs, s, T, Fs, Ft, hK, hM, g, a⟩ => TD.go hK hM g (a.bnd.mono fun i s1 a1 v1 H1 cs1 Fs1 Ft1 g1 => by
    split at a1
    · rename_i d
      split at a1
      · rename_i ds0 hv0
        obtain ⟨a, xs, rfl, hq, _⟩ := g1.view (v := v1) (d := d) (ds := ds0) (by simp) hv0
        refine ⟨.inl ⟨rfl, xs, by rw [← hK]; exact hq⟩, TAs.go hK hM g1 (a1.bnd.push.mono fun l s2 a2 vs H2 cs2 Fs2 Ft2 hl g2 => ?_)⟩
        split at a2
        · rename_i es' ds ev hv
          split at a2
          · rename_i z hz
            have e' := vals_eq ev
            subst e'
            unfold idxO at hz
            split at hz
            · rename_i ns k hn
              rw [Option.map_eq_some_iff] at hz
              obtain ⟨j, hj, rfl⟩ := hz
              obtain ⟨y, rfl⟩ : ∃ y, vs = [y] := by
                cases vs with
                | nil => simp at hl
                | cons y l => cases l with
                  | nil => exact ⟨y, rfl⟩
                  | cons _ _ => simp at hl
              have hy := g2.tm.mem (v := y) (d := .int k) (by simp)
              obtain ⟨f, ry⟩ := hy
              cases ry
              obtain ⟨b, ys, eb, hq2, rs⟩ := g2.view (v := .ref a) (d := d) (ds := ds) (by simp) hv
              cases eb
              rw [intsD_eq hn] at rs
              rw [rs.ints] at hq2
              obtain ⟨hlt, hp, hb⟩ := List.findIdx?_eq_some_iff_getElem.mp hj
              refine ⟨a, ns.map V.int, .int k, j, .int ns[j], rfl, rfl, by rw [← hK]; exact hq2, rfl, ?_, ?_, ?_, ?_, ?_⟩
              · rw [List.all_eq_true]; intro x hx; obtain ⟨i, _, rfl⟩ := List.mem_map.mp hx; rfl
              · rw [List.getElem?_map, List.getElem?_eq_getElem hlt]; rfl
              · exact hp
              · intro m z' hm hz'
                rw [List.getElem?_map, Option.map_eq_some_iff] at hz'
                obtain ⟨w, hw, rfl⟩ := hz'
                have := hb m hm
                obtain ⟨hml, hwe⟩ := List.getElem?_eq_some_iff.mp hw
                rw [hwe] at this
                have q : (w == k) = false := by simpa using this
                exact q
              · obtain ⟨F3, g3, _⟩ := Good.popU (U := [(V.int k, It.val (.int k)), (V.ref a, It.val d)]) g2
                exact a2 _ H2 cs2 Fs2 F3 (g3.push0 (.int _))
            · cases hz
          · exact a2.elim
        · exact a2.elim
      · exact a1.elim
    · exact a1.elim)
end
end DL
namespace Lk07
open PySem L2 DL
def top (i : Nat) : Stmt := PySem.Challenge.pw_debtscleared_k07_whole_webs_renamed.main.body.getD i (.Pass ⟨0, 0, 0, 0⟩)
def fuel : Nat := 1000000000000000000
def IQ1 : Pos := ⟨4, 17, 4, 21⟩
def IQ2 : Pos := ⟨4, 23, 4, 28⟩
def IDF : List Expr := [.Constant .none 0 ⟨4, 29, 4, 33⟩]
def IPO : IPos := ⟨⟨5, 8, 5, 13⟩, ⟨5, 8, 5, 15⟩, ⟨5, 8, 5, 24⟩, ⟨5, 25, 5, 30⟩, ⟨5, 8, 5, 31⟩, ⟨5, 8, 5, 31⟩, ⟨6, 8, 6, 12⟩, ⟨6, 8, 6, 18⟩, ⟨6, 21, 6, 26⟩, ⟨6, 8, 6, 26⟩⟩
def ET : ETab := [("DebtError", ["DebtError"]), ("InvalidWeb", ["InvalidWeb", "DebtError"]), ("InvalidList", ["InvalidList", "DebtError"])]
/-! _law_all -/
abbrev s__law_all : Stmt := top 40
abbrev N__law_all : List Str := ["size", "found", "turn", "row", "one"]
theorem sc__law_all : FnScope N__law_all ["size"] (defScope s__law_all) := ⟨rfl, rfl, rfl, by decide +kernel, rfl, by decide +kernel, by decide +kernel⟩
def m__law_all : M Fl :=
    (sq (asg (dspL (argsC (dspL args0) args0)) (toN 1))
    (sq (forS (it1 (argsC (gP 0) args0)) (toN 2) (asg (sumLM (argsC (comp [3] (itS (gS 1)) (toN 3) tst1 (comp [4] (it1 (argsC (gP 0) args0)) (toN 4) (tst (binI ninD (gP 4) (gP 3))) (binC addD (gC 3) (dspL (argsC (gS 4) args0))))) (argsC (dspL args0) args0))) (toN 1)))
    (rtn (gM 1))))
def F__law_all : Fn := runB 5 m__law_all
/-! reached_from -/
abbrev s_reached_from : Stmt := top 8
abbrev N_reached_from : List Str := ["pairs", "start", "found", "late", "here", "one", "other", "near", "far"]
theorem sc_reached_from : FnScope N_reached_from ["pairs", "start"] (defScope s_reached_from) := ⟨rfl, rfl, rfl, by decide +kernel, rfl, by decide +kernel, by decide +kernel⟩
def m_reached_from : M Fl :=
    (sq (par2 2 3 (argsC (dspL (argsC (gS 1) args0)) (argsC (dspL (argsC (gS 1) args0)) args0)))
    (sq (whl (tst (binI neE (gP 3) (dspL args0))) (sq (asg (mtM popO 3 args0) (toN 4))
    (forS (itS (gS 0)) (toT 2 (tgsC (toN 5) (tgsC (toN 6) tgs0))) (forS (itS (dspT (argsC (dspT (argsC (gS 5) (argsC (gS 6) args0))) (argsC (dspT (argsC (gS 6) (argsC (gS 5) args0))) args0)))) (toT 2 (tgsC (toN 7) (tgsC (toN 8) tgs0))) (ifS (andB (tst (binI eqE (gP 7) (gP 4))) (tst (binI ninD (gP 8) (gP 2)))) (par2 2 3 (argsC (dspL (argsS (gC 2) (argsC (gS 8) args0))) (argsC (dspL (argsS (gC 3) (argsC (gS 8) args0))) args0))) skp)))) fuel)
    (rtn (cliC sorD (argsC (gC 2) args0)))))
def F_reached_from : Fn := runB 9 m_reached_from
/-! hang_together -/
abbrev s_hang_together : Stmt := top 9
abbrev N_hang_together : List Str := ["many", "pairs"]
theorem sc_hang_together : FnScope N_hang_together ["many", "pairs"] (defScope s_hang_together) := ⟨rfl, rfl, rfl, by decide +kernel, rfl, by decide +kernel, by decide +kernel⟩
def m_hang_together : M Fl :=
    (rtn (binI eqE (cliI lenD (argsC (call F_reached_from (argsC (gS 1) (argsC (kst (.int 0)) args0))) args0)) (gP 0)))
def F_hang_together : Fn := runB 2 m_hang_together
/-! is_whole -/
abbrev s_is_whole : Stmt := top 7
abbrev N_is_whole : List Str := ["value"]
theorem sc_is_whole : FnScope N_is_whole ["value"] (defScope s_is_whole) := ⟨rfl, rfl, rfl, by decide +kernel, rfl, by decide +kernel, by decide +kernel⟩
def m_is_whole : M Fl :=
    (rtn (andV (cliI isaD (argsC (gP 0) (argsC (kst (.ty "int")) args0))) (notV (cliI isaD (argsC (gP 0) (argsC (kst (.ty "bool")) args0))))))
def F_is_whole : Fn := runB 1 m_is_whole
/-! is_tie -/
abbrev s_is_tie : Stmt := top 10
abbrev N_is_tie : List Str := ["value", "many", "one"]
theorem sc_is_tie : FnScope N_is_tie ["value", "many"] (defScope s_is_tie) := ⟨rfl, rfl, rfl, by decide +kernel, rfl, by decide +kernel, by decide +kernel⟩
def m_is_tie : M Fl :=
    (sq (ifS (orB (notB (tst (cliI isaD (argsC (gP 0) (argsC (kst (.ty "tuple")) args0))))) (orB (tst (binI neE (cliI lenD (argsC (gP 0) args0)) (kst (.int 3)))) (notB (tst (cliI allD (argsC (comp [2] (itS (gS 0)) (toN 2) tst1 (call F_is_whole (argsC (gS 2) args0))) args0)))))) (rtn (kst (.bool false))) skp)
    (rtn (andV (chn3 leD ltD ltD (kst (.int 0)) (ixM (gP 0) (kst (.int 0))) (ixM (gP 0) (kst (.int 1))) (gP 1)) (chn leD leD (kst (.int 1)) (ixM (gP 0) (kst (.int 2))) (kst (.int 9))))))
def F_is_tie : Fn := runB 3 m_is_tie
/-! is_web_by -/
abbrev s_is_web_by : Stmt := top 11
abbrev N_is_web_by : List Str := ["value", "ties", "tie", "at"]
theorem sc_is_web_by : FnScope N_is_web_by ["value"] (defScope s_is_web_by) := ⟨rfl, rfl, rfl, by decide +kernel, rfl, by decide +kernel, by decide +kernel⟩
def m_is_web_by : M Fl :=
    (sq (ifS (orB (notB (tst (cliI isaD (argsC (gP 0) (argsC (kst (.ty "tuple")) args0))))) (orB (tst (binI neE (cliI lenD (argsC (gP 0) args0)) (kst (.int 3)))) (orB (notB (tst (cliI isaD (argsC (ixM (gP 0) (kst (.int 0))) (argsC (kst (.ty "str")) args0))))) (tst (binI neE (ixM (gP 0) (kst (.int 0))) (kst (.str "web"))))))) (rtn (kst (.bool false))) skp)
    (sq (ifS (orB (notB (tst (call F_is_whole (argsC (ixM (gP 0) (kst (.int 1))) args0)))) (orB (notB (tst (chn leD leD (kst (.int 1)) (ixM (gP 0) (kst (.int 1))) (kst (.int 7))))) (notB (tst (cliI isaD (argsC (ixM (gP 0) (kst (.int 2))) (argsC (kst (.ty "list")) args0))))))) (rtn (kst (.bool false))) skp)
    (sq (asg (ixM (gP 0) (kst (.int 2))) (toN 1))
    (sq (ifS (notB (tst (cliI allD (argsC (comp [2] (itS (gS 1)) (toN 2) tst1 (call F_is_tie (argsC (gS 2) (argsC (ixM (gP 0) (kst (.int 1))) args0)))) args0)))) (rtn (kst (.bool false))) skp)
    (sq (ifS (notB (tst (cliI allD (argsC (comp [3] (it2 (argsC (kst (.int 1)) (argsC (cliI lenD (argsC (gP 1) args0)) args0))) (toN 3) tst1 (binI ltD (slM (ixM (gP 1) (binC subD (gC 3) (kst (.int 1)))) o0 (o1 (kst (.int 2)))) (slM (ixM (gP 1) (gP 3)) o0 (o1 (kst (.int 2)))))) args0)))) (rtn (kst (.bool false))) skp)
    (rtn (call F_hang_together (argsC (ixM (gP 0) (kst (.int 1))) (argsC (comp [2] (itS (gS 1)) (toN 2) tst1 (slM (gC 2) o0 (o1 (kst (.int 2))))) args0)))))))))
def F_is_web_by : Fn := runB 4 m_is_web_by
/-! check_web -/
abbrev s_check_web : Stmt := top 12
abbrev N_check_web : List Str := ["web"]
theorem sc_check_web : FnScope N_check_web ["web"] (defScope s_check_web) := ⟨rfl, rfl, rfl, by decide +kernel, rfl, by decide +kernel, by decide +kernel⟩
def m_check_web : M Fl :=
    (ifS (notB (tst (call F_is_web_by (argsC (gS 0) args0)))) (rse "InvalidWeb" (gS 0)) skp)
def F_check_web : Fn := runB 1 m_check_web
/-! is_order_by -/
abbrev s_is_order_by : Stmt := top 17
abbrev N_is_order_by : List Str := ["many", "value", "one"]
theorem sc_is_order_by : FnScope N_is_order_by ["many", "value"] (defScope s_is_order_by) := ⟨rfl, rfl, rfl, by decide +kernel, rfl, by decide +kernel, by decide +kernel⟩
def m_is_order_by : M Fl :=
    (rtn (andV (cliI isaD (argsC (gP 1) (argsC (kst (.ty "list")) args0))) (andV (cliI allD (argsC (comp [2] (itS (gS 1)) (toN 2) tst1 (call F_is_whole (argsC (gS 2) args0))) args0)) (binI eqE (cliC sorD (argsC (gC 1) args0)) (lr1 (gP 0))))))
def F_is_order_by : Fn := runB 3 m_is_order_by
/-! many_in -/
abbrev s_many_in : Stmt := top 13
abbrev N_many_in : List Str := ["web"]
theorem sc_many_in : FnScope N_many_in ["web"] (defScope s_many_in) := ⟨rfl, rfl, rfl, by decide +kernel, rfl, by decide +kernel, by decide +kernel⟩
def m_many_in : M Fl :=
    (rtn (ixM (gP 0) (kst (.int 1))))
def F_many_in : Fn := runB 1 m_many_in
/-! ties_in -/
abbrev s_ties_in : Stmt := top 14
abbrev N_ties_in : List Str := ["web"]
theorem sc_ties_in : FnScope N_ties_in ["web"] (defScope s_ties_in) := ⟨rfl, rfl, rfl, by decide +kernel, rfl, by decide +kernel, by decide +kernel⟩
def m_ties_in : M Fl :=
    (rtn (ixM (gP 0) (kst (.int 2))))
def F_ties_in : Fn := runB 1 m_ties_in
/-! web_of -/
abbrev s_web_of : Stmt := top 16
abbrev N_web_of : List Str := ["many", "ties", "found", "one", "other", "number"]
theorem sc_web_of : FnScope N_web_of ["many", "ties"] (defScope s_web_of) := ⟨rfl, rfl, rfl, by decide +kernel, rfl, by decide +kernel, by decide +kernel⟩
def m_web_of : M Fl :=
    (sq (asg (dspL args0) (toN 2))
    (sq (forS (itS (cliC sorD (argsC (comp [3, 4, 5] (itS (gS 1)) (toT 3 (tgsC (toN 3) (tgsC (toN 4) (tgsC (toN 5) tgs0)))) tst1 (dspT (argsC (cliI minD (argsC (gP 3) (argsC (gP 4) args0))) (argsC (cliI maxD (argsC (gP 3) (argsC (gP 4) args0))) (argsC (gS 5) args0))))) args0))) (toT 3 (tgsC (toN 3) (tgsC (toN 4) (tgsC (toN 5) tgs0)))) (ifS (andB (tst (binI neE (gP 2) (dspL args0))) (tst (binI eqE (slM (ixM (gP 2) (unM negD (kst (.int 1)))) o0 (o1 (kst (.int 2)))) (dspT (argsC (gS 3) (argsC (gS 4) args0)))))) (asg (dspT (argsC (gS 3) (argsC (gS 4) (argsC (binC addD (ixM (ixM (gP 2) (unM negD (kst (.int 1)))) (kst (.int 2))) (gC 5)) args0)))) (toX 2 (unM negD (kst (.int 1))))) (drp (mtM appO 2 (argsC (dspT (argsC (gS 3) (argsC (gS 4) (argsC (gS 5) args0)))) args0)))))
    (rtn (dspT (argsC (kst (.str "web")) (argsC (gM 0) (argsC (gM 2) args0)))))))
def F_web_of : Fn := runB 6 m_web_of
/-! renamed_by -/
abbrev s_renamed_by : Stmt := top 18
abbrev N_renamed_by : List Str := ["web", "order", "ties", "high", "low", "number"]
theorem sc_renamed_by : FnScope N_renamed_by ["web", "order"] (defScope s_renamed_by) := ⟨rfl, rfl, rfl, by decide +kernel, rfl, by decide +kernel, by decide +kernel⟩
def m_renamed_by : M Fl :=
    (sq (asg (comp [3, 4, 5] (itS (call F_ties_in (argsC (gS 0) args0))) (toT 3 (tgsC (toN 4) (tgsC (toN 3) (tgsC (toN 5) tgs0)))) tst1 (dspT (argsC (ixV (gS 1) (argsC (gS 4) args0)) (argsC (ixV (gS 1) (argsC (gS 3) args0)) (argsC (gS 5) args0))))) (toN 2))
    (rtn (call F_web_of (argsC (call F_many_in (argsC (gS 0) args0)) (argsC (gS 2) args0)))))
def F_renamed_by : Fn := runB 6 m_renamed_by
/-! renamed_web -/
abbrev s_renamed_web : Stmt := top 19
abbrev N_renamed_web : List Str := ["web", "order"]
theorem sc_renamed_web : FnScope N_renamed_web ["web", "order"] (defScope s_renamed_web) := ⟨rfl, rfl, rfl, by decide +kernel, rfl, by decide +kernel, by decide +kernel⟩
def m_renamed_web : M Fl :=
    (sq (drp (call F_check_web (argsC (gS 0) args0)))
    (sq (ifS (notB (tst (call F_is_order_by (argsC (call F_many_in (argsC (gS 0) args0)) (argsC (gS 1) args0))))) (rse "InvalidList" (gS 1)) skp)
    (rtn (call F_renamed_by (argsC (gS 0) (argsC (gS 1) args0))))))
def F_renamed_web : Fn := runB 2 m_renamed_web
/-! orders_of -/
abbrev s_orders_of : Stmt := top 20
abbrev N_orders_of : List Str := ["many", "found", "_", "longer", "row", "point"]
theorem sc_orders_of : FnScope N_orders_of ["many"] (defScope s_orders_of) := ⟨rfl, rfl, rfl, by decide +kernel, rfl, by decide +kernel, by decide +kernel⟩
def m_orders_of : M Fl :=
    (sq (asg (dspL (argsC (dspL args0) args0)) (toN 1))
    (sq (forS (it1 (argsC (gP 0) args0)) (toN 2) (sq (asg (dspL args0) (toN 3))
    (sq (forS (itS (gS 1)) (toN 4) (asg (catMv (gM 3) (comp [5] (it1 (argsC (gP 0) args0)) (toN 5) (tst (binI ninD (gP 5) (gP 4))) (binC addD (gC 4) (dspL (argsC (gS 5) args0))))) (toN 3)))
    (asg (gM 3) (toN 1)))))
    (rtn (gM 1))))
def F_orders_of : Fn := runB 6 m_orders_of
/-! renaming -/
abbrev s_renaming : Stmt := top 21
abbrev N_renaming : List Str := ["one", "other", "order"]
theorem sc_renaming : FnScope N_renaming ["one", "other"] (defScope s_renaming) := ⟨rfl, rfl, rfl, by decide +kernel, rfl, by decide +kernel, by decide +kernel⟩
def m_renaming : M Fl :=
    (sq (drp (call F_check_web (argsC (gS 0) args0)))
    (sq (drp (call F_check_web (argsC (gS 1) args0)))
    (sq (ifS (tst (binI neE (call F_many_in (argsC (gS 0) args0)) (call F_many_in (argsC (gS 1) args0)))) (rtn (kst .none)) skp)
    (sq (forS (itS (thawD (call F_orders_of (argsC (call F_many_in (argsC (gS 0) args0)) args0)))) (toN 2) (ifS (tst (binI eqE (ixM (call F_renamed_by (argsC (gS 0) (argsC (gS 2) args0))) (kst (.int 2))) (call F_ties_in (argsC (gS 1) args0)))) (rtn (gM 2)) skp))
    (rtn (kst .none))))))
def F_renaming : Fn := runB 3 m_renaming
/-! _law_caught -/
abbrev s__law_caught : Stmt := top 38
abbrev N__law_caught : List Str := ["door", "args", "caught", "kept", "error", "sorts"]
theorem sc__law_caught : FnScope N__law_caught ["door", "args"] (defScope s__law_caught) := ⟨rfl, rfl, rfl, by decide +kernel, rfl, by decide +kernel, by decide +kernel⟩
def m__law_caught : M Fl :=
    (sq (par2 2 3 (argsC (kst .none) (argsC (cliI reprD (argsC (gP 1) args0)) args0)))
    (sq (tryK ET 4 2 (drp (callV [("renamed_web", F_renamed_web), ("renaming", F_renaming)] (ixM (dspL (argsC (kst (.fn "renamed_web")) (argsC (kst (.fn "renaming")) args0))) (gP 0)) (argsC (ixM (gP 1) (kst (.int 0))) (argsC (ixM (gP 1) (kst (.int 1))) args0)))))
    (sq (ifS (orB (tst (binI isD (gP 2) (kst .none))) (tst (binI neE (cliI reprD (argsC (gP 1) args0)) (gP 3)))) (rtn (kst (.str "none"))) skp)
    (sq (asg (dspL (argsC (cliI (isaX ET) (argsC (gP 2) (argsC (kst (.fn "InvalidWeb")) args0))) (argsC (cliI (isaX ET) (argsC (gP 2) (argsC (kst (.fn "InvalidList")) args0))) args0))) (toN 5))
    (rtn (cliI reprD (argsC (binC addD (gC 5) (dspL (argsC (valE ET (gP 2)) args0))) args0)))))))
def F__law_caught : Fn := runB 6 m__law_caught
/-! _law_exact -/
abbrev s__law_exact : Stmt := top 28
abbrev N__law_exact : List Str := ["due", "told", "at"]
theorem sc__law_exact : FnScope N__law_exact ["due", "told"] (defScope s__law_exact) := ⟨rfl, rfl, rfl, by decide +kernel, rfl, by decide +kernel, by decide +kernel⟩
def m__law_exact (f : Fn) : M Fl :=
    (sq (ifS (tst (cliI isaTD (argsC (gP 0) (argsC (dspT (argsC (kst (.ty "list")) (argsC (kst (.ty "tuple")) args0))) args0)))) (sq (ifS (orB (tst (binI neE (cliI isaD (argsC (gP 0) (argsC (kst (.ty "list")) args0))) (cliI isaD (argsC (gP 1) (argsC (kst (.ty "list")) args0))))) (tst (binI neE (cliI isaD (argsC (gP 0) (argsC (kst (.ty "tuple")) args0))) (cliI isaD (argsC (gP 1) (argsC (kst (.ty "tuple")) args0)))))) (rtn (kst (.bool false))) skp)
    (rtn (andV (binI eqE (cliI lenD (argsC (gP 1) args0)) (cliI lenD (argsC (gP 0) args0))) (binI eqE (comp [2] (it1 (argsC (cliI lenD (argsC (gP 0) args0)) args0)) (toN 2) (notB (tst (call f (argsC (ixM (gP 0) (gP 2)) (argsC (ixM (gP 1) (gP 2)) args0))))) (gS 2)) (dspL args0))))) skp)
    (sq (ifS (orB (tst (binI isD (gP 0) (kst .none))) (tst (cliI isaD (argsC (gP 0) (argsC (kst (.ty "bool")) args0))))) (rtn (orV (andV (binI isD (gP 0) (kst .none)) (binI isD (gP 1) (kst .none))) (orV (andV (binI isD (gP 0) (kst (.bool true))) (binI isD (gP 1) (kst (.bool true)))) (andV (binI isD (gP 0) (kst (.bool false))) (binI isD (gP 1) (kst (.bool false))))))) skp)
    (sq (ifS (tst (cliI isaD (argsC (gP 0) (argsC (kst (.ty "str")) args0)))) (rtn (andV (cliI isaD (argsC (gP 1) (argsC (kst (.ty "str")) args0))) (binI eqE (gP 1) (gP 0)))) skp)
    (rtn (andV (cliI isaD (argsC (gP 1) (argsC (kst (.ty "int")) args0))) (andV (notV (cliI isaD (argsC (gP 1) (argsC (kst (.ty "bool")) args0)))) (binI eqE (gP 1) (gP 0))))))))
def F__law_exact : Nat → Fn
  | 0 => fun _ _ => none
  | n + 1 => runB 3 (m__law_exact (F__law_exact n))
/-! _law_cell -/
abbrev s__law_cell : Stmt := top 25
abbrev N__law_cell : List Str := ["script", "index"]
theorem sc__law_cell : FnScope N__law_cell ["script", "index"] (defScope s__law_cell) := ⟨rfl, rfl, rfl, by decide +kernel, rfl, by decide +kernel, by decide +kernel⟩
def m__law_cell : M Fl :=
    (sq (ifS (tst (binI ltD (gP 1) (cliI lenD (argsC (gP 0) args0)))) (rtn (ixM (gP 0) (gP 1))) skp)
    (rtn (binC modD (cliI sumD (argsC (slM (gC 0) o0 (o1 (kst (.int 1)))) args0)) (kst (.int 1000003)))))
def F__law_cell : Fn := runB 2 m__law_cell
/-! _law_generator -/
abbrev s__law_generator : Stmt := top 26
abbrev N__law_generator : List Str := ["script", "index", "seed"]
theorem sc__law_generator : FnScope N__law_generator ["script", "index"] (defScope s__law_generator) := ⟨rfl, rfl, rfl, by decide +kernel, rfl, by decide +kernel, by decide +kernel⟩
def m__law_generator : M Fl :=
    (sq (asg (call F__law_cell (argsC (gS 0) (argsC (gS 1) args0))) (toN 2))
    (rtn (dspL (argsC (binC modD (cliI intD (argsC (cliI maxD (argsC (binC subD (gC 2) (binC powD (kst (.int 10)) (kst (.int 18)))) (argsC (kst (.int 0)) args0))) args0)) (binC powD (binC powD (kst (.int 10)) (kst (.int 60))) (kst (.int 10)))) (argsC (binC modD (cliI intD (argsC (gP 2) args0)) (kst (.int 2147483647))) (argsC (binC mulD (kst (.int 1000)) (gC 1)) args0))))))
def F__law_generator : Fn := runB 3 m__law_generator
/-! _law_hash -/
abbrev s__law_hash : Stmt := top 23
abbrev N__law_hash : List Str := ["seed", "index", "mixed"]
theorem sc__law_hash : FnScope N__law_hash ["seed", "index"] (defScope s__law_hash) := ⟨rfl, rfl, rfl, by decide +kernel, rfl, by decide +kernel, by decide +kernel⟩
def m__law_hash : M Fl :=
    (sq (asg (binC modD (cliI intD (argsC (binC addD (binC addD (binC addD (binC mulD (gC 0) (kst (.int 1220147))) (binC mulD (binC mulD (kst (.int 16777903)) (gC 1)) (gC 1))) (binC mulD (kst (.int 223)) (gC 1))) (kst (.int 97))) args0)) (kst (.int 2147483629))) (toN 2))
    (sq (asg (binC modD (cliI intD (argsC (binC addD (binC addD (binC mulD (gC 2) (gC 2)) (binC mulD (kst (.int 69019)) (gC 1))) (kst (.int 32416187))) args0)) (kst (.int 2147483587))) (toN 2))
    (rtn (binC modD (cliI intD (argsC (binC mulD (gC 2) (kst (.int 48271))) args0)) (kst (.int 2147483647))))))
def F__law_hash : Fn := runB 3 m__law_hash
/-! _law_random -/
abbrev s__law_random : Stmt := top 24
abbrev N__law_random : List Str := ["generator", "bound", "drawn", "turn"]
theorem sc__law_random : FnScope N__law_random ["generator", "bound"] (defScope s__law_random) := ⟨rfl, rfl, rfl, by decide +kernel, rfl, by decide +kernel, by decide +kernel⟩
def m__law_random : M Fl :=
    (sq (ifS (tst (binI gtD (ixM (gP 0) (kst (.int 0))) (kst (.int 0)))) (sq (asg (binC modD (cliI intD (argsC (ixM (gP 0) (kst (.int 0))) args0)) (gC 1)) (toN 2))
    (sq (asg (binC divD (ixM (gP 0) (kst (.int 0))) (gC 1)) (toX 0 (kst (.int 0))))
    (rtn (gM 2)))) skp)
    (sq (asg (kst (.int 0)) (toN 2))
    (sq (forS (it1 (argsC (binC addD (kst (.int 1)) (binC divD (bitsM (gP 1)) (kst (.int 30)))) args0)) (toN 3) (sq (asg (binC addD (ixM (gP 0) (kst (.int 2))) (kst (.int 1))) (toX 0 (kst (.int 2))))
    (asg (binC addD (binC mulD (gC 2) (kst (.int 2147483587))) (call F__law_hash (argsC (ixM (gP 0) (kst (.int 1))) (argsC (ixM (gP 0) (kst (.int 2))) args0)))) (toN 2))))
    (rtn (binC modD (cliI intD (argsC (gP 2) args0)) (gC 1))))))
def F__law_random : Fn := runB 4 m__law_random
/-! _law_pick -/
abbrev s__law_pick : Stmt := top 27
abbrev N__law_pick : List Str := ["generator", "things"]
theorem sc__law_pick : FnScope N__law_pick ["generator", "things"] (defScope s__law_pick) := ⟨rfl, rfl, rfl, by decide +kernel, rfl, by decide +kernel, by decide +kernel⟩
def m__law_pick : M Fl :=
    (rtn (ixM (gP 1) (call F__law_random (argsC (gS 0) (argsC (cliI lenD (argsC (gP 1) args0)) args0)))))
def F__law_pick : Fn := runB 2 m__law_pick
/-! _law_bad_web -/
abbrev s__law_bad_web : Stmt := top 36
abbrev N__law_bad_web : List Str := ["generator", "web", "word", "many", "ties", "odd"]
theorem sc__law_bad_web : FnScope N__law_bad_web ["generator", "web"] (defScope s__law_bad_web) := ⟨rfl, rfl, rfl, by decide +kernel, rfl, by decide +kernel, by decide +kernel⟩
def m__law_bad_web : M Fl :=
    (sq (asg (gS 1) (toT 3 (tgsC (toN 2) (tgsC (toN 3) (tgsC (toN 4) tgs0)))))
    (sq (asg (dspL (argsC (kst .none) (argsC (dspT args0) (argsC (cliC listD (argsC (gC 1) args0)) (argsC (dspT (argsC (kst (.str "Web")) (argsC (gS 3) (argsC (gS 4) args0)))) (argsC (dspT (argsC (gS 2) (argsC (gS 3) args0))) (argsC (dspT (argsC (gS 2) (argsC (kst (.int 0)) (argsC (dspL args0) args0)))) (argsC (dspT (argsC (gS 2) (argsC (kst (.int 8)) (argsC (gS 4) args0)))) (argsC (dspT (argsC (gS 2) (argsC (kst (.bool true)) (argsC (dspL args0) args0)))) (argsC (dspT (argsC (gS 2) (argsC (cliI strD (argsC (gP 3) args0)) (argsC (gS 4) args0)))) args0)))))))))) (toN 5))
    (sq (asg (binC addD (gC 5) (dspL (argsC (dspT (argsC (gS 2) (argsC (gS 3) (argsC (cliC tupleD (argsC (gC 4) args0)) args0)))) (argsC (dspT (argsC (kst .none) (argsC (gS 3) (argsC (gS 4) args0)))) args0)))) (toN 5))
    (sq (asg (binC addD (gC 5) (dspL (argsC (dspT (argsC (gS 2) (argsC (binC addD (gC 3) (kst (.int 1))) (argsC (gS 4) args0)))) (argsC (dspT (argsC (gS 2) (argsC (gS 3) (argsC (kst .none) args0)))) (argsC (dspT (argsC (gS 2) (argsC (kst (.int 2)) (argsC (dspL (argsC (dspT (argsC (kst (.int 0)) (argsC (kst (.int 1)) (argsC (kst (.int 0)) args0)))) args0)) args0)))) (argsC (dspT (argsC (gS 2) (argsC (kst (.int 2)) (argsC (dspL (argsC (dspT (argsC (kst (.int 0)) (argsC (kst (.int 1)) (argsC (kst (.int 10)) args0)))) args0)) args0)))) (argsC (dspT (argsC (gS 2) (argsC (kst (.int 2)) (argsC (dspL (argsC (dspT (argsC (kst (.int 1)) (argsC (kst (.int 0)) (argsC (kst (.int 1)) args0)))) args0)) args0)))) (argsC (dspT (argsC (gS 2) (argsC (kst (.int 2)) (argsC (dspL (argsC (dspT (argsC (kst (.int 0)) (argsC (kst (.int 1)) (argsC (kst (.bool true)) args0)))) args0)) args0)))) (argsC (dspT (argsC (gS 2) (argsC (kst (.int 2)) (argsC (dspL (argsC (dspT (argsC (kst (.int 0)) (argsC (kst (.int 1)) args0))) args0)) args0)))) args0))))))))) (toN 5))
    (sq (asg (binC addD (gC 5) (dspL (argsC (dspT (argsC (gS 2) (argsC (kst (.int 2)) (argsC (dspL (argsC (dspL (argsC (kst (.int 0)) (argsC (kst (.int 1)) (argsC (kst (.int 1)) args0)))) args0)) args0)))) (argsC (dspT (argsC (gS 2) (argsC (kst (.int 2)) (argsC (dspL (argsC (dspT (argsC (kst (.int 0)) (argsC (kst (.int 2)) (argsC (kst (.int 1)) args0)))) args0)) args0)))) (argsC (dspT (argsC (gS 2) (argsC (kst (.int 3)) (argsC (dspL (argsC (dspT (argsC (kst (.int 1)) (argsC (kst (.int 2)) (argsC (kst (.int 1)) args0)))) (argsC (dspT (argsC (kst (.int 0)) (argsC (kst (.int 1)) (argsC (kst (.int 1)) args0)))) args0))) args0)))) (argsC (dspT (argsC (gS 2) (argsC (kst (.int 2)) (argsC (dspL (argsC (dspT (argsC (kst (.int 0)) (argsC (kst (.int 1)) (argsC (kst (.int 1)) args0)))) (argsC (dspT (argsC (kst (.int 0)) (argsC (kst (.int 1)) (argsC (kst (.int 2)) args0)))) args0))) args0)))) args0)))))) (toN 5))
    (sq (asg (binC addD (gC 5) (dspL (argsC (dspT (argsC (gS 2) (argsC (kst (.int 4)) (argsC (dspL (argsC (dspT (argsC (kst (.int 0)) (argsC (kst (.int 1)) (argsC (kst (.int 1)) args0)))) (argsC (dspT (argsC (kst (.int 2)) (argsC (kst (.int 3)) (argsC (kst (.int 1)) args0)))) args0))) args0)))) (argsC (dspT (argsC (gS 2) (argsC (kst (.int 2)) (argsC (dspL (argsC (dspT (argsC (kst (.bool false)) (argsC (kst (.int 1)) (argsC (kst (.int 1)) args0)))) args0)) args0)))) args0)))) (toN 5))
    (rtn (call F__law_pick (argsC (gS 0) (argsC (gS 5) args0))))))))))
def F__law_bad_web : Fn := runB 6 m__law_bad_web
/-! _law_hang -/
abbrev s__law_hang : Stmt := top 32
abbrev N__law_hang : List Str := ["many", "pairs", "found", "turn", "one", "other"]
theorem sc__law_hang : FnScope N__law_hang ["many", "pairs"] (defScope s__law_hang) := ⟨rfl, rfl, rfl, by decide +kernel, rfl, by decide +kernel, by decide +kernel⟩
def m__law_hang : M Fl :=
    (sq (asg (dspL (argsC (kst (.int 0)) args0)) (toN 2))
    (sq (forS (it1 (argsC (gP 0) args0)) (toN 3) (forS (itS (gS 1)) (toT 2 (tgsC (toN 4) (tgsC (toN 5) tgs0))) (sq (asg (binC addD (gC 2) (binC mulD (dspL (argsC (gS 5) args0)) (cliI intD (argsC (andV (binI inD (gP 4) (gP 2)) (binI ninD (gP 5) (gP 2))) args0)))) (toN 2))
    (asg (binC addD (gC 2) (binC mulD (dspL (argsC (gS 4) args0)) (cliI intD (argsC (andV (binI inD (gP 5) (gP 2)) (binI ninD (gP 4) (gP 2))) args0)))) (toN 2)))))
    (rtn (binI eqE (cliI lenD (argsC (gP 2) args0)) (gP 0)))))
def F__law_hang : Fn := runB 6 m__law_hang
/-! _law_is_whole -/
abbrev s__law_is_whole : Stmt := top 31
abbrev N__law_is_whole : List Str := ["value"]
theorem sc__law_is_whole : FnScope N__law_is_whole ["value"] (defScope s__law_is_whole) := ⟨rfl, rfl, rfl, by decide +kernel, rfl, by decide +kernel, by decide +kernel⟩
def m__law_is_whole : M Fl :=
    (rtn (andV (cliI isaD (argsC (gP 0) (argsC (kst (.ty "int")) args0))) (notV (cliI isaD (argsC (gP 0) (argsC (kst (.ty "bool")) args0))))))
def F__law_is_whole : Fn := runB 1 m__law_is_whole
/-! _law_is_web -/
abbrev s__law_is_web : Stmt := top 33
abbrev N__law_is_web : List Str := ["value", "at", "tie", "one"]
theorem sc__law_is_web : FnScope N__law_is_web ["value"] (defScope s__law_is_web) := ⟨rfl, rfl, rfl, by decide +kernel, rfl, by decide +kernel, by decide +kernel⟩
def m__law_is_web : M Fl :=
    (sq (ifS (orB (notB (tst (cliI isaD (argsC (gP 0) (argsC (kst (.ty "tuple")) args0))))) (orB (tst (binI neE (cliI lenD (argsC (gP 0) args0)) (kst (.int 3)))) (orB (notB (tst (cliI isaD (argsC (ixM (gP 0) (kst (.int 0))) (argsC (kst (.ty "str")) args0))))) (orB (tst (binI neE (ixM (gP 0) (kst (.int 0))) (kst (.str "web")))) (orB (notB (tst (call F__law_is_whole (argsC (ixM (gP 0) (kst (.int 1))) args0)))) (notB (tst (chn leD leD (kst (.int 1)) (ixM (gP 0) (kst (.int 1))) (kst (.int 7)))))))))) (rtn (kst (.bool false))) skp)
    (sq (ifS (notB (tst (cliI isaD (argsC (ixM (gP 0) (kst (.int 2))) (argsC (kst (.ty "list")) args0))))) (rtn (kst (.bool false))) skp)
    (sq (forS (itE (argsC (ixM (gP 0) (kst (.int 2))) args0)) (toT 2 (tgsC (toN 1) (tgsC (toN 2) tgs0))) (sq (ifS (orB (notB (tst (cliI isaD (argsC (gP 2) (argsC (kst (.ty "tuple")) args0))))) (orB (tst (binI neE (cliI lenD (argsC (gP 2) args0)) (kst (.int 3)))) (tst (binI neE (comp [3] (itS (gS 2)) (toN 3) (notB (tst (call F__law_is_whole (argsC (gS 3) args0)))) (gS 3)) (dspL args0))))) (rtn (kst (.bool false))) skp)
    (ifS (orB (notB (tst (chn3 leD ltD ltD (kst (.int 0)) (ixM (gP 2) (kst (.int 0))) (ixM (gP 2) (kst (.int 1))) (ixM (gP 0) (kst (.int 1)))))) (orB (notB (tst (chn leD leD (kst (.int 1)) (ixM (gP 2) (kst (.int 2))) (kst (.int 9))))) (andB (tst (binI gtD (gP 1) (kst (.int 0)))) (tst (binI geT (slM (ixM (ixM (gP 0) (kst (.int 2))) (binC subD (gC 1) (kst (.int 1)))) o0 (o1 (kst (.int 2)))) (slM (gC 2) o0 (o1 (kst (.int 2))))))))) (rtn (kst (.bool false))) skp)))
    (rtn (call F__law_hang (argsC (ixM (gP 0) (kst (.int 1))) (argsC (comp [2] (itS (ixM (gP 0) (kst (.int 2)))) (toN 2) tst1 (slM (gC 2) o0 (o1 (kst (.int 2))))) args0)))))))
def F__law_is_web : Fn := runB 4 m__law_is_web
/-! _law_no_web -/
abbrev s__law_no_web : Stmt := top 37
abbrev N__law_no_web : List Str := ["generator", "web", "bad"]
theorem sc__law_no_web : FnScope N__law_no_web ["generator", "web"] (defScope s__law_no_web) := ⟨rfl, rfl, rfl, by decide +kernel, rfl, by decide +kernel, by decide +kernel⟩
def m__law_no_web : M Fl :=
    (sq (asg (call F__law_bad_web (argsC (gS 0) (argsC (gS 1) args0))) (toN 2))
    (rtn (ifV (tst (call F__law_is_web (argsC (gS 2) args0))) (kst .none) (gM 2))))
def F__law_no_web : Fn := runB 3 m__law_no_web
/-! _law_order -/
abbrev s__law_order : Stmt := top 39
abbrev N__law_order : List Str := ["generator", "size", "left", "found"]
theorem sc__law_order : FnScope N__law_order ["generator", "size"] (defScope s__law_order) := ⟨rfl, rfl, rfl, by decide +kernel, rfl, by decide +kernel, by decide +kernel⟩
def m__law_order : M Fl :=
    (sq (par2 2 3 (argsC (lr1 (gP 1)) (argsC (dspL args0) args0)))
    (sq (whl (tst (binI neE (gP 2) (dspL args0))) (drp (mtM appO 3 (argsC (mtM popAtO 2 (argsC (call F__law_random (argsC (gS 0) (argsC (cliI lenD (argsC (gP 2) args0)) args0))) args0)) args0))) fuel)
    (rtn (gM 3))))
def F__law_order : Fn := runB 4 m__law_order
/-! _law_lists -/
abbrev s__law_lists : Stmt := top 29
abbrev N__law_lists : List Str := ["thing", "found", "part"]
theorem sc__law_lists : FnScope N__law_lists ["thing"] (defScope s__law_lists) := ⟨rfl, rfl, rfl, by decide +kernel, rfl, by decide +kernel, by decide +kernel⟩
def m__law_lists (f : Fn) : M Fl :=
    (sq (asg (ifV (tst (cliR isaD (argsC (gP 0) (argsC (kst (.ty "list")) args0)))) (dspL (argsC (gS 0) args0)) (dspL args0)) (toN 1))
    (sq (forS (itS (ifV (tst (cliR isaTD (argsC (gP 0) (argsC (dspT (argsC (kst (.ty "list")) (argsC (kst (.ty "tuple")) args0))) args0)))) (gS 0) (dspL args0))) (toN 2) (asg (binC addD (gC 1) (call f (argsC (gS 2) args0))) (toN 1)))
    (rtn (gM 1))))
def F__law_lists : Nat → Fn
  | 0 => fun _ _ => none
  | n + 1 => runB 3 (m__law_lists (F__law_lists n))
/-! _law_own -/
abbrev s__law_own : Stmt := top 30
abbrev N__law_own : List Str := ["generator", "told", "given", "kept", "some", "turn", "one"]
theorem sc__law_own : FnScope N__law_own ["generator", "told", "given"] (defScope s__law_own) := ⟨rfl, rfl, rfl, by decide +kernel, rfl, by decide +kernel, by decide +kernel⟩
def m__law_own : M Fl :=
    (sq (par2 3 4 (argsC (cliR reprD (argsC (gP 2) args0)) (argsC (call (F__law_lists 12) (argsC (gS 1) args0)) args0)))
    (sq (forS (it1 (argsC (cliI minD (argsC (kst (.int 6)) (argsC (cliI lenD (argsC (gP 4) args0)) args0))) args0)) (toN 5) (sq (asg (ixM (gP 4) (call F__law_random (argsC (gS 0) (argsC (cliI lenD (argsC (gP 4) args0)) args0)))) (toN 6))
    (sq (drp (mtM appO 6 (argsC (kst (.str "mark")) args0)))
    (sq (ifS (orB (tst (binI neE (cntM (cliR reprD (argsC (gP 1) args0)) (kst (.str "'mark'"))) (kst (.int 1)))) (tst (binI neE (cliR reprD (argsC (gP 2) args0)) (gP 3)))) (rtn (kst (.bool false))) skp)
    (drp (mtM popO 6 args0))))))
    (rtn (kst (.bool true)))))
def F__law_own : Fn := runB 7 m__law_own
/-! _law_made -/
abbrev s__law_made : Stmt := top 34
abbrev N__law_made : List Str := ["many", "ties", "found", "one", "other", "number"]
theorem sc__law_made : FnScope N__law_made ["many", "ties"] (defScope s__law_made) := ⟨rfl, rfl, rfl, by decide +kernel, rfl, by decide +kernel, by decide +kernel⟩
def m__law_made : M Fl :=
    (sq (asg (dspL args0) (toN 2))
    (sq (forS (itS (cliC sorD (argsC (comp [3, 4, 5] (itS (gS 1)) (toT 3 (tgsC (toN 3) (tgsC (toN 4) (tgsC (toN 5) tgs0)))) tst1 (dspT (argsC (cliI minD (argsC (gP 3) (argsC (gP 4) args0))) (argsC (cliI maxD (argsC (gP 3) (argsC (gP 4) args0))) (argsC (gS 5) args0))))) args0))) (toT 3 (tgsC (toN 3) (tgsC (toN 4) (tgsC (toN 5) tgs0)))) (ifS (andB (tst (binI neE (gP 2) (dspL args0))) (tst (binI eqE (slM (ixM (gP 2) (unM negD (kst (.int 1)))) o0 (o1 (kst (.int 2)))) (dspT (argsC (gS 3) (argsC (gS 4) args0)))))) (asg (dspT (argsC (gS 3) (argsC (gS 4) (argsC (binC addD (ixM (ixM (gP 2) (unM negD (kst (.int 1)))) (kst (.int 2))) (gC 5)) args0)))) (toX 2 (unM negD (kst (.int 1))))) (drp (mtM appO 2 (argsC (dspT (argsC (gS 3) (argsC (gS 4) (argsC (gS 5) args0)))) args0)))))
    (rtn (dspT (argsC (kst (.str "web")) (argsC (gM 0) (argsC (gM 2) args0)))))))
def F__law_made : Fn := runB 6 m__law_made
/-! _law_renamed -/
abbrev s__law_renamed : Stmt := top 41
abbrev N__law_renamed : List Str := ["web", "order", "high", "low", "number"]
theorem sc__law_renamed : FnScope N__law_renamed ["web", "order"] (defScope s__law_renamed) := ⟨rfl, rfl, rfl, by decide +kernel, rfl, by decide +kernel, by decide +kernel⟩
def m__law_renamed : M Fl :=
    (rtn (call F__law_made (argsC (ixM (gP 0) (kst (.int 1))) (argsC (comp [2, 3, 4] (itS (ixM (gP 0) (kst (.int 2)))) (toT 3 (tgsC (toN 3) (tgsC (toN 2) (tgsC (toN 4) tgs0)))) tst1 (dspT (argsC (ixL (gS 1) (argsC (gS 3) args0)) (argsC (ixL (gS 1) (argsC (gS 2) args0)) (argsC (gS 4) args0))))) args0))))
def F__law_renamed : Fn := runB 5 m__law_renamed
/-! _law_web -/
abbrev s__law_web : Stmt := top 35
abbrev N__law_web : List Str := ["generator", "most", "ties", "many", "rows", "turn", "one", "other", "point", "row"]
theorem sc__law_web : FnScope N__law_web ["generator", "most", "ties"] (defScope s__law_web) := ⟨rfl, rfl, rfl, by decide +kernel, rfl, by decide +kernel, by decide +kernel⟩
def m__law_web : M Fl :=
    (sq (asg (binC addD (kst (.int 1)) (call F__law_random (argsC (gS 0) (argsC (gS 1) args0)))) (toN 3))
    (sq (asg (thawM (comp [8] (it2 (argsC (kst (.int 1)) (argsC (gP 3) args0))) (toN 8) tst1 (dspT (argsC (call F__law_random (argsC (gS 0) (argsC (gS 8) args0))) (argsC (gS 8) (argsC (binC addD (kst (.int 1)) (call F__law_random (argsC (gS 0) (argsC (gS 2) args0)))) args0)))))) (toN 4))
    (sq (forS (it1 (argsC (call F__law_random (argsC (gS 0) (argsC (gS 3) args0))) args0)) (toN 5) (sq (asg (dspT (argsC (call F__law_random (argsC (gS 0) (argsC (gS 3) args0))) (argsC (call F__law_random (argsC (gS 0) (argsC (gS 3) args0))) args0))) (toT 2 (tgsC (toN 6) (tgsC (toN 7) tgs0))))
    (ifS (andB (tst (binI neE (gP 6) (gP 7))) (tst (binI eqE (comp [9] (itS (gS 4)) (toN 9) (tst (binI inD (slM (gC 9) o0 (o1 (kst (.int 2)))) (dspL (argsC (dspT (argsC (gS 6) (argsC (gS 7) args0))) (argsC (dspT (argsC (gS 7) (argsC (gS 6) args0))) args0))))) (gS 9)) (dspL args0)))) (drp (mtM appO 4 (argsC (dspT (argsC (cliI minD (argsC (gP 6) (argsC (gP 7) args0))) (argsC (cliI maxD (argsC (gP 6) (argsC (gP 7) args0))) (argsC (binC addD (kst (.int 1)) (call F__law_random (argsC (gS 0) (argsC (gS 2) args0)))) args0)))) args0))) skp)))
    (rtn (call F__law_made (argsC (gS 3) (argsC (gS 4) args0)))))))
def F__law_web : Fn := runB 10 m__law_web
/-! law -/
abbrev s_law : Stmt := top 42
abbrev N_law : List Str := ["script", "index", "generator", "web", "order", "kept", "due", "told", "other", "ways", "first", "bad", "many", "asks", "wrong", "late", "door", "ask"]
theorem sc_law : FnScope N_law ["script"] (defScope s_law) := ⟨rfl, rfl, rfl, by decide +kernel, rfl, by decide +kernel, by decide +kernel⟩
def m_law : M Fl :=
    (sq (forS (it1 (argsC (kst (.int 3)) args0)) (toN 1) (sq (asg (thawM (call F__law_generator (argsC (gS 0) (argsC (gS 1) args0)))) (toN 2))
    (sq (asg (call F__law_web (argsC (gS 2) (argsC (kst (.int 5)) (argsC (kst (.int 3)) args0)))) (toN 3))
    (sq (par2 4 5 (argsC (call F__law_order (argsC (gS 2) (argsC (ixM (gP 3) (kst (.int 1))) args0))) (argsC (cliI reprD (argsC (gP 3) args0)) args0)))
    (sq (par2 6 7 (argsC (call F__law_renamed (argsC (gS 3) (argsC (gS 4) args0))) (argsC (thawD (call F_renamed_web (argsC (gS 3) (argsC (gS 4) args0)))) args0)))
    (sq (ifS (orB (notB (tst (call (F__law_exact 12) (argsC (shrM (dspL (argsC (gS 6) (argsC (gS 6) args0)))) (argsC (shrM (dspL (argsC (gS 7) (argsC (callK F_renamed_web [1, 0] args0 (argsC (gS 4) (argsC (gS 3) args0))) args0)))) args0))))) (notB (tst (call F__law_own (argsC (gS 2) (argsC (thawD (ixM (gP 7) (kst (.int 2)))) (argsC (dspL (argsC (gS 3) (argsC (gS 4) args0))) args0))))))) (rtn (kst (.bool false))) skp)
    (sq (forS (itS (dspL (argsC (gS 6) (argsC (call F__law_web (argsC (gS 2) (argsC (kst (.int 5)) (argsC (kst (.int 2)) args0)))) args0)))) (toN 8) (sq (asg (comp [15] (itS (call F__law_all (argsC (ixM (gP 3) (kst (.int 1))) args0))) (toN 15) (andB (tst (binI eqE (ixM (gP 8) (kst (.int 1))) (ixM (gP 3) (kst (.int 1))))) (tst (binI eqE (call F__law_renamed (argsC (gS 3) (argsC (gS 15) args0))) (gP 8)))) (gS 15)) (toN 9))
    (sq (asg (ifV (tst (binI neE (gP 9) (dspL args0))) (ixM (gP 9) (kst (.int 0))) (kst .none)) (toN 10))
    (sq (ifS (notB (tst (call (F__law_exact 12) (argsC (shrM (dspL (argsC (gS 10) (argsC (gS 10) args0)))) (argsC (shrM (dspL (argsC (call F_renaming (argsC (gS 3) (argsC (gS 8) args0))) (argsC (callK F_renaming [1, 0] args0 (argsC (gS 8) (argsC (gS 3) args0))) args0)))) args0))))) (rtn (kst (.bool false))) skp)
    (ifS (andB (tst (binI isntD (gP 10) (kst .none))) (notB (tst (call F__law_own (argsC (gS 2) (argsC (thawD (call F_renaming (argsC (gS 3) (argsC (gS 8) args0)))) (argsC (dspL (argsC (gS 3) (argsC (gS 8) args0))) args0))))))) (rtn (kst (.bool false))) skp)))))
    (sq (asg (dspT (argsC (call F__law_no_web (argsC (gS 2) (argsC (gS 3) args0))) (argsC (ixM (gP 3) (kst (.int 1))) args0))) (toT 2 (tgsC (toN 11) (tgsC (toN 12) tgs0))))
    (sq (asg (binC addD (comp [15, 16] (itS (dspL (argsC (dspT (argsC (kst (.int 0)) (argsC (kst (.str "z")) args0))) (argsC (dspT (argsC (kst (.int 1)) (argsC (kst (.str "z")) args0))) (argsC (dspT (argsC (kst (.int 0)) (argsC (gS 4) args0))) (argsC (dspT (argsC (kst (.int 1)) (argsC (gS 3) args0))) args0)))))) (toT 2 (tgsC (toN 16) (tgsC (toN 15) tgs0))) tst1 (dspT (argsC (gS 16) (argsC (dspT (argsC (gS 11) (argsC (gS 15) args0))) (argsC (dspL (argsC (kst (.bool true)) (argsC (kst (.bool false)) (argsC (gS 11) args0)))) args0))))) (dspL (argsC (dspT (argsC (kst (.int 1)) (argsC (dspT (argsC (gS 3) (argsC (gS 11) args0))) (argsC (dspL (argsC (kst (.bool true)) (argsC (kst (.bool false)) (argsC (gS 11) args0)))) args0)))) args0))) (toN 13))
    (sq (forS (itS (dspL (argsC (kst .none) (argsC (dspT args0) (argsC (cliC tupleD (argsC (gC 4) args0)) (argsC (binC addD (gC 4) (dspL (argsC (gS 12) args0))) (argsC (slM (gC 4) (o1 (kst (.int 1))) o0) (argsC (binC mulD (dspL (argsC (kst (.int 0)) args0)) (binC addD (gC 12) (kst (.int 1)))) (argsC (kst (.dic [] [])) (argsC (binC mulD (dspL (argsC (kst .none) args0)) (gC 12)) (argsC (binC mulD (dspL (argsC (kst (.str "0")) args0)) (gC 12)) (argsC (binC addD (slM (gC 4) o0 (o1 (unM negD (kst (.int 1))))) (dspL (argsC (gS 12) args0))) (argsC (comp [15] (itS (gS 4)) (toN 15) tst1 (ifV (tst (binI ltD (gP 15) (kst (.int 2)))) (binI eqE (gP 15) (kst (.int 1))) (gS 15))) args0))))))))))))) (toN 14) (drp (mtM appO 13 (argsC (dspT (argsC (kst (.int 0)) (argsC (dspT (argsC (gS 3) (argsC (gS 14) args0))) (argsC (dspL (argsC (kst (.bool false)) (argsC (kst (.bool true)) (argsC (gS 14) args0)))) args0)))) args0))))
    (ifS (orB (tst (binI neE (comp [17] (itS (gS 13)) (toN 17) (tst (binI neE (call F__law_caught (argsC (ixM (gP 17) (kst (.int 0))) (argsC (ixM (gP 17) (kst (.int 1))) args0))) (cliI reprD (argsC (ixM (gP 17) (kst (.int 2))) args0)))) (gS 17)) (dspL args0))) (tst (binI neE (cliI reprD (argsC (gP 3) args0)) (gP 5)))) (rtn (kst (.bool false))) skp)))))))))))
    (rtn (kst (.bool true))))
def F_law : Fn := runB 18 m_law
/-- what the module has -/
structure TT (P : Program) (K : PySem.W.Frag) (mg : Str → Option Value) : Prop where
  d__law_all : Df K mg "_law_all" s__law_all ["size"]
  d_reached_from : Df K mg "reached_from" s_reached_from ["pairs", "start"]
  d_hang_together : Df K mg "hang_together" s_hang_together ["many", "pairs"]
  d_is_whole : Df K mg "is_whole" s_is_whole ["value"]
  d_is_tie : Df K mg "is_tie" s_is_tie ["value", "many"]
  d_is_web_by : Df K mg "is_web_by" s_is_web_by ["value"]
  d_check_web : Df K mg "check_web" s_check_web ["web"]
  d_is_order_by : Df K mg "is_order_by" s_is_order_by ["many", "value"]
  d_many_in : Df K mg "many_in" s_many_in ["web"]
  d_ties_in : Df K mg "ties_in" s_ties_in ["web"]
  d_web_of : Df K mg "web_of" s_web_of ["many", "ties"]
  d_renamed_by : Df K mg "renamed_by" s_renamed_by ["web", "order"]
  d_renamed_web : Df K mg "renamed_web" s_renamed_web ["web", "order"]
  d_orders_of : Df K mg "orders_of" s_orders_of ["many"]
  d_renaming : Df K mg "renaming" s_renaming ["one", "other"]
  d__law_caught : Df K mg "_law_caught" s__law_caught ["door", "args"]
  d__law_exact : Df K mg "_law_exact" s__law_exact ["due", "told"]
  d__law_cell : Df K mg "_law_cell" s__law_cell ["script", "index"]
  d__law_generator : Df K mg "_law_generator" s__law_generator ["script", "index"]
  d__law_hash : Df K mg "_law_hash" s__law_hash ["seed", "index"]
  d__law_random : Df K mg "_law_random" s__law_random ["generator", "bound"]
  d__law_pick : Df K mg "_law_pick" s__law_pick ["generator", "things"]
  d__law_bad_web : Df K mg "_law_bad_web" s__law_bad_web ["generator", "web"]
  d__law_hang : Df K mg "_law_hang" s__law_hang ["many", "pairs"]
  d__law_is_whole : Df K mg "_law_is_whole" s__law_is_whole ["value"]
  d__law_is_web : Df K mg "_law_is_web" s__law_is_web ["value"]
  d__law_no_web : Df K mg "_law_no_web" s__law_no_web ["generator", "web"]
  d__law_order : Df K mg "_law_order" s__law_order ["generator", "size"]
  d__law_lists : Df K mg "_law_lists" s__law_lists ["thing"]
  d__law_own : Df K mg "_law_own" s__law_own ["generator", "told", "given"]
  d__law_made : Df K mg "_law_made" s__law_made ["many", "ties"]
  d__law_renamed : Df K mg "_law_renamed" s__law_renamed ["web", "order"]
  d__law_web : Df K mg "_law_web" s__law_web ["generator", "most", "ties"]
  d_law : Df K mg "law" s_law ["script"]
  z_all : mg "all" = none
  z_bool : mg "bool" = none
  z_enumerate : mg "enumerate" = none
  z_int : mg "int" = none
  z_isinstance : mg "isinstance" = none
  z_len : mg "len" = none
  z_list : mg "list" = none
  z_max : mg "max" = none
  z_min : mg "min" = none
  z_range : mg "range" = none
  z_repr : mg "repr" = none
  z_sorted : mg "sorted" = none
  z_str : mg "str" = none
  z_sum : mg "sum" = none
  z_tuple : mg "tuple" = none
  x_exc : Exs P K mg ET
  c_MOST_POINTS : ∃ t, mg "MOST_POINTS" = some (.int 7 t)
  c_MOST_TIES : ∃ t, mg "MOST_TIES" = some (.int 9 t)
section
variable {P : Program} {w : World} {K : PySem.W.Frag} {mg : Str → Option Value} {base : Heap}
theorem g__law_all (T : TT P K mg) : Dn P w K mg base 1 "_law_all" s__law_all ["size"] F__law_all := Dn.of T.d__law_all fun f fd F => fnD (k := 0) F sc__law_all fun cdv A outer s H E hr hg =>
    have tk : Takes (cxOf (L2.CX P w) P w K mg base N__law_all "_law_all" (defScope s__law_all) f cdv A outer s H E) (fun cls d _ H => E cls d H) := takes_of rfl rfl rfl rfl
    (bCons (sN sc__law_all.nd (i := 1) rfl (by first | exact .inl rfl | exact .inr rfl) (dL (aC (dL a0) a0)))
    (bCons (sF (passes_of rfl) rfl (i1 (by rfl) T.z_range (aC (dP (pv 0)) a0)) (gN (pg_name sc__law_all.nd rfl (by first | exact .inl rfl | exact .inr rfl))) (bOne (sN sc__law_all.nd (i := 1) rfl (by first | exact .inl rfl | exact .inr rfl) (dSumL T.z_sum (aC (dLC (own := [("row", 3)]) rfl sc__law_all.nd (iS (dS (pv 1))) (by exact blkOk_by (N := N__law_all) (sc := defScope s__law_all) (own := [("row", 3)]) (by decide +kernel)) (fun s H C cl fp => (gN (pg_name sc__law_all.nd rfl (by first | exact .inl rfl | exact .inr rfl)))) (fun s H C cl fp => q0) (fun s H C cl fp => (dLC (own := [("one", 4)]) rfl sc__law_all.nd (i1 (by rfl) T.z_range (aC (dP (pv 0)) a0)) (by refine blkOk_by (own := [("one", 4)]) ?_; show blkC N__law_all (relabel _ _) _ _ = true; rw [relabel_re]; show blkC N__law_all (reScope _ (defScope s__law_all)) _ _ = true; decide +kernel) (fun s H C cl fp => (gN (pg_name sc__law_all.nd rfl (by first | exact .inl rfl | exact .inr rfl)))) (fun s H C cl fp => (q1 (tI (or_nin (u65 hr)) oi_nin (dP (pv 4)) (dP (pv 3))))) (fun s H C cl fp => (dO or_add oc_add (dC (pv 3)) (dL (aC (dS (pv 4)) a0))))))) (aC (dL a0) a0))))))
    (bOne (sR (dM (pv 1))))))
theorem g_reached_from (T : TT P K mg) : Dn P w K mg base 1 "reached_from" s_reached_from ["pairs", "start"] F_reached_from := Dn.of T.d_reached_from fun f fd F => fnD (k := 0) F sc_reached_from fun cdv A outer s H E hr hg =>
    have tk : Takes (cxOf (L2.CX P w) P w K mg base N_reached_from "reached_from" (defScope s_reached_from) f cdv A outer s H E) (fun cls d _ H => E cls d H) := takes_of rfl rfl rfl rfl
    (bCons (s2 (i := 2) (j := 3) rfl sc_reached_from.nd rfl rfl (by decide) rfl rfl (aC (dL (aC (dS (pv 1)) a0)) (aC (dL (aC (dS (pv 1)) a0)) a0)) (by rfl))
    (bCons (sW fuel (passes_of rfl) (tI (or_ne (u64 hr)) oi_neE (dP (pv 3)) (dL a0)) (bCons (sN sc_reached_from.nd (i := 4) rfl (by first | exact .inl rfl | exact .inr rfl) (dMt0 PySem.F.slot_list_pop PySem.F.type_list_pop mt_pop lo_pop (pv 3)))
    (bOne (sF (passes_of rfl) rfl (iS (dS (pv 0))) (gT rfl (gsC (gN (pg_name sc_reached_from.nd rfl (by first | exact .inl rfl | exact .inr rfl))) (gsC (gN (pg_name sc_reached_from.nd rfl (by first | exact .inl rfl | exact .inr rfl))) gs0))) (bOne (sF (passes_of rfl) rfl (iS (dT (aC (dT (aC (dS (pv 5)) (aC (dS (pv 6)) a0))) (aC (dT (aC (dS (pv 6)) (aC (dS (pv 5)) a0))) a0)))) (gT rfl (gsC (gN (pg_name sc_reached_from.nd rfl (by first | exact .inl rfl | exact .inr rfl))) (gsC (gN (pg_name sc_reached_from.nd rfl (by first | exact .inl rfl | exact .inr rfl))) gs0))) (bOne (sI (PW.pt (wA (tI (or_eq (u64 hr)) oi_eqE (dP (pv 7)) (dP (pv 4))) (wA1 (tI (or_nin (u65 hr)) oi_nin (dP (pv 8)) (dP (pv 2)))))) (bOne (s2 (i := 2) (j := 3) rfl sc_reached_from.nd rfl rfl (by decide) rfl rfl (aC (dL (aS (dC (pv 2)) (aC (dS (pv 8)) a0))) (aC (dL (aS (dC (pv 3)) (aC (dS (pv 8)) a0))) a0)) (by rfl))) bNil))))))))
    (bOne (sR (fC cc_sor (cr_sor (u70 hr)) T.z_sorted (aC (dC (pv 2)) a0))))))
theorem g_hang_together (T : TT P K mg) : Dn P w K mg base 2 "hang_together" s_hang_together ["many", "pairs"] F_hang_together := Dn.of T.d_hang_together fun f fd F => fnD (k := 1) F sc_hang_together fun cdv A outer s H E hr hg =>
    have tk : Takes (cxOf (L2.CX P w) P w K mg base N_hang_together "hang_together" (defScope s_hang_together) f cdv A outer s H E) (fun cls d _ H => E cls d H) := takes_of rfl rfl rfl rfl
    (bOne (sR (dI (or_eq (u64 hr)) oi_eqE (fI ci_len call_len T.z_len (aC (dCl (g_reached_from T) hr hg (passAt tk) (aC (dS (pv 1)) (aC cI a0)) (argsC_len (argsC_len args0_len))) a0)) (dP (pv 0)))))
theorem g_is_whole (T : TT P K mg) : Dn P w K mg base 1 "is_whole" s_is_whole ["value"] F_is_whole := Dn.of T.d_is_whole fun f fd F => fnD (k := 0) F sc_is_whole fun cdv A outer s H E hr hg =>
    have tk : Takes (cxOf (L2.CX P w) P w K mg base N_is_whole "is_whole" (defScope s_is_whole) f cdv A outer s H E) (fun cls d _ H => E cls d H) := takes_of rfl rfl rfl rfl
    (bOne (sR (dA (fI ci_isa call_isi T.z_isinstance (aC (dP (pv 0)) (aC (gTy T.z_int) a0))) (d1 (dN (fI ci_isa call_isi T.z_isinstance (aC (dP (pv 0)) (aC (gTy T.z_bool) a0))))))))
theorem g_is_tie (T : TT P K mg) : Dn P w K mg base 2 "is_tie" s_is_tie ["value", "many"] F_is_tie := Dn.of T.d_is_tie fun f fd F => fnD (k := 1) F sc_is_tie fun cdv A outer s H E hr hg =>
    have tk : Takes (cxOf (L2.CX P w) P w K mg base N_is_tie "is_tie" (defScope s_is_tie) f cdv A outer s H E) (fun cls d _ H => E cls d H) := takes_of rfl rfl rfl rfl
    (bCons (sI (PW.pt (wO (tN (tV (fI ci_isa call_isi T.z_isinstance (aC (dP (pv 0)) (aC (gTy T.z_tuple) a0))))) (wO (tI (or_ne (u64 hr)) oi_neE (fI ci_len call_len T.z_len (aC (dP (pv 0)) a0)) cI) (wO1 (tN (tV (fI ci_all (cr_all rfl) T.z_all (aC (dLC (own := [("one", 2)]) rfl sc_is_tie.nd (iS (dS (pv 0))) (by exact blkOk_by (N := N_is_tie) (sc := defScope s_is_tie) (own := [("one", 2)]) (by decide +kernel)) (fun s H C cl fp => (gN (pg_name sc_is_tie.nd rfl (by first | exact .inl rfl | exact .inr rfl)))) (fun s H C cl fp => q0) (fun s H C cl fp => (dCl (g_is_whole T) hr hg (passAt takes0) (aC (dS (pv 2)) a0) (argsC_len args0_len)))) a0)))))))) (bOne (sR cB)) bNil)
    (bOne (sR (dA (dC3 op_le oi_int (or_lt (u0 hr)) oi_lt (or_lt (u0 hr)) oi_lt cI (dX (dP (pv 0)) cI) (dX (dP (pv 0)) cI) (dP (pv 1))) (d1 (dC2 op_le oi_int op_le oi_int cI (dX (dP (pv 0)) cI) (gI T.c_MOST_TIES)))))))
theorem g_is_web_by (T : TT P K mg) : Dn P w K mg base 3 "is_web_by" s_is_web_by ["value"] F_is_web_by := Dn.of T.d_is_web_by fun f fd F => fnD (k := 2) F sc_is_web_by fun cdv A outer s H E hr hg =>
    have tk : Takes (cxOf (L2.CX P w) P w K mg base N_is_web_by "is_web_by" (defScope s_is_web_by) f cdv A outer s H E) (fun cls d _ H => E cls d H) := takes_of rfl rfl rfl rfl
    (bCons (sI (PW.pt (wO (tN (tV (fI ci_isa call_isi T.z_isinstance (aC (dP (pv 0)) (aC (gTy T.z_tuple) a0))))) (wO (tI (or_ne (u64 hr)) oi_neE (fI ci_len call_len T.z_len (aC (dP (pv 0)) a0)) cI) (wO (tN (tV (fI ci_isa call_isi T.z_isinstance (aC (dX (dP (pv 0)) cI) (aC (gTy T.z_str) a0))))) (wO1 (tI (or_ne (u64 hr)) oi_neE (dX (dP (pv 0)) cI) cS)))))) (bOne (sR cB)) bNil)
    (bCons (sI (PW.pt (wO (tN (tV (dCl (g_is_whole T) hr hg (passAt tk) (aC (dX (dP (pv 0)) cI) a0) (argsC_len args0_len)))) (wO (tN (tC2 op_le oi_int op_le oi_int cI (dX (dP (pv 0)) cI) (gI T.c_MOST_POINTS))) (wO1 (tN (tV (fI ci_isa call_isi T.z_isinstance (aC (dX (dP (pv 0)) cI) (aC (gTy T.z_list) a0))))))))) (bOne (sR cB)) bNil)
    (bCons (sN sc_is_web_by.nd (i := 1) rfl (by first | exact .inl rfl | exact .inr rfl) (dX (dP (pv 0)) cI))
    (bCons (sI (tN (tV (fI ci_all (cr_all rfl) T.z_all (aC (dLC (own := [("tie", 2)]) rfl sc_is_web_by.nd (iS (dS (pv 1))) (by exact blkOk_by (N := N_is_web_by) (sc := defScope s_is_web_by) (own := [("tie", 2)]) (by decide +kernel)) (fun s H C cl fp => (gN (pg_name sc_is_web_by.nd rfl (by first | exact .inl rfl | exact .inr rfl)))) (fun s H C cl fp => q0) (fun s H C cl fp => (dCl (g_is_tie T) hr hg (passAt takes0) (aC (dS (pv 2)) (aC (dX (dP (pv 0)) cI) a0)) (argsC_len (argsC_len args0_len))))) a0)))) (bOne (sR cB)) bNil)
    (bCons (sI (tN (tV (fI ci_all (cr_all rfl) T.z_all (aC (dLC (own := [("at", 3)]) rfl sc_is_web_by.nd (i2 (by rfl) T.z_range (aC cI (aC (fI ci_len call_len T.z_len (aC (dP (pv 1)) a0)) a0))) (by exact blkOk_by (N := N_is_web_by) (sc := defScope s_is_web_by) (own := [("at", 3)]) (by decide +kernel)) (fun s H C cl fp => (gN (pg_name sc_is_web_by.nd rfl (by first | exact .inl rfl | exact .inr rfl)))) (fun s H C cl fp => q0) (fun s H C cl fp => (dI (or_lt (u0 hr)) oi_lt (dSl (dX (dP (pv 1)) (dO op_sub oc_sub (dC (pv 3)) cI)) oN (oS cI)) (dSl (dX (dP (pv 1)) (dP (pv 3))) oN (oS cI))))) a0)))) (bOne (sR cB)) bNil)
    (bOne (sR (dCl (g_hang_together T) hr hg (passAt tk) (aC (dX (dP (pv 0)) cI) (aC (dLC (own := [("tie", 2)]) rfl sc_is_web_by.nd (iS (dS (pv 1))) (by exact blkOk_by (N := N_is_web_by) (sc := defScope s_is_web_by) (own := [("tie", 2)]) (by decide +kernel)) (fun s H C cl fp => (gN (pg_name sc_is_web_by.nd rfl (by first | exact .inl rfl | exact .inr rfl)))) (fun s H C cl fp => q0) (fun s H C cl fp => (dSl (dC (pv 2)) oN (oS cI)))) a0)) (argsC_len (argsC_len args0_len))))))))))
theorem g_check_web (T : TT P K mg) : Dn P w K mg base 4 "check_web" s_check_web ["web"] F_check_web := Dn.of T.d_check_web fun f fd F => fnD (k := 3) F sc_check_web fun cdv A outer s H E hr hg =>
    have tk : Takes (cxOf (L2.CX P w) P w K mg base N_check_web "check_web" (defScope s_check_web) f cdv A outer s H E) (fun cls d _ H => E cls d H) := takes_of rfl rfl rfl rfl
    (bOne (sI (tN (tV (dCl (g_is_web_by T) hr hg (passAt tk) (aC (dS (pv 0)) a0) (argsC_len args0_len)))) (bOne (sRse T.x_exc rfl tk hr (dS (pv 0)))) bNil))
theorem g_is_order_by (T : TT P K mg) : Dn P w K mg base 2 "is_order_by" s_is_order_by ["many", "value"] F_is_order_by := Dn.of T.d_is_order_by fun f fd F => fnD (k := 1) F sc_is_order_by fun cdv A outer s H E hr hg =>
    have tk : Takes (cxOf (L2.CX P w) P w K mg base N_is_order_by "is_order_by" (defScope s_is_order_by) f cdv A outer s H E) (fun cls d _ H => E cls d H) := takes_of rfl rfl rfl rfl
    (bOne (sR (dA (fI ci_isa call_isi T.z_isinstance (aC (dP (pv 1)) (aC (gTy T.z_list) a0))) (dA (fI ci_all (cr_all rfl) T.z_all (aC (dLC (own := [("one", 2)]) rfl sc_is_order_by.nd (iS (dS (pv 1))) (by exact blkOk_by (N := N_is_order_by) (sc := defScope s_is_order_by) (own := [("one", 2)]) (by decide +kernel)) (fun s H C cl fp => (gN (pg_name sc_is_order_by.nd rfl (by first | exact .inl rfl | exact .inr rfl)))) (fun s H C cl fp => q0) (fun s H C cl fp => (dCl (g_is_whole T) hr hg (passAt takes0) (aC (dS (pv 2)) a0) (argsC_len args0_len)))) a0)) (d1 (dI (or_eq (u64 hr)) oi_eqE (fC cc_sor (cr_sor (u70 hr)) T.z_sorted (aC (dC (pv 1)) a0)) (dLR1 rfl (by rfl) T.z_list (by rfl) T.z_range (dP (pv 0)))))))))
theorem g_many_in (T : TT P K mg) : Dn P w K mg base 1 "many_in" s_many_in ["web"] F_many_in := Dn.of T.d_many_in fun f fd F => fnD (k := 0) F sc_many_in fun cdv A outer s H E hr hg =>
    have tk : Takes (cxOf (L2.CX P w) P w K mg base N_many_in "many_in" (defScope s_many_in) f cdv A outer s H E) (fun cls d _ H => E cls d H) := takes_of rfl rfl rfl rfl
    (bOne (sR (dX (dP (pv 0)) cI)))
theorem g_ties_in (T : TT P K mg) : Dn P w K mg base 1 "ties_in" s_ties_in ["web"] F_ties_in := Dn.of T.d_ties_in fun f fd F => fnD (k := 0) F sc_ties_in fun cdv A outer s H E hr hg =>
    have tk : Takes (cxOf (L2.CX P w) P w K mg base N_ties_in "ties_in" (defScope s_ties_in) f cdv A outer s H E) (fun cls d _ H => E cls d H) := takes_of rfl rfl rfl rfl
    (bOne (sR (dX (dP (pv 0)) cI)))
theorem g_web_of (T : TT P K mg) : Dn P w K mg base 1 "web_of" s_web_of ["many", "ties"] F_web_of := Dn.of T.d_web_of fun f fd F => fnD (k := 0) F sc_web_of fun cdv A outer s H E hr hg =>
    have tk : Takes (cxOf (L2.CX P w) P w K mg base N_web_of "web_of" (defScope s_web_of) f cdv A outer s H E) (fun cls d _ H => E cls d H) := takes_of rfl rfl rfl rfl
    (bCons (sN sc_web_of.nd (i := 2) rfl (by first | exact .inl rfl | exact .inr rfl) (dL a0))
    (bCons (sF (passes_of rfl) rfl (iS (fC cc_sor (cr_sor (u70 hr)) T.z_sorted (aC (dLC (own := [("one", 3), ("other", 4), ("number", 5)]) rfl sc_web_of.nd (iS (dS (pv 1))) (by exact blkOk_by (N := N_web_of) (sc := defScope s_web_of) (own := [("one", 3), ("other", 4), ("number", 5)]) (by decide +kernel)) (fun s H C cl fp => (gT rfl (gsC (gN (pg_name sc_web_of.nd rfl (by first | exact .inl rfl | exact .inr rfl))) (gsC (gN (pg_name sc_web_of.nd rfl (by first | exact .inl rfl | exact .inr rfl))) (gsC (gN (pg_name sc_web_of.nd rfl (by first | exact .inl rfl | exact .inr rfl))) gs0))))) (fun s H C cl fp => q0) (fun s H C cl fp => (dT (aC (fI ci_min (cr_minA rfl) T.z_min (aC (dP (pv 3)) (aC (dP (pv 4)) a0))) (aC (fI ci_max (cr_maxA rfl) T.z_max (aC (dP (pv 3)) (aC (dP (pv 4)) a0))) (aC (dS (pv 5)) a0)))))) a0))) (gT rfl (gsC (gN (pg_name sc_web_of.nd rfl (by first | exact .inl rfl | exact .inr rfl))) (gsC (gN (pg_name sc_web_of.nd rfl (by first | exact .inl rfl | exact .inr rfl))) (gsC (gN (pg_name sc_web_of.nd rfl (by first | exact .inl rfl | exact .inr rfl))) gs0)))) (bOne (sI (PW.pt (wA (tI (or_ne (u64 hr)) oi_neE (dP (pv 2)) (dL a0)) (wA1 (tI (or_eq (u64 hr)) oi_eqE (dSl (dX (dP (pv 2)) (dNeg cI)) oN (oS cI)) (dT (aC (dS (pv 3)) (aC (dS (pv 4)) a0))))))) (bOne (sA (dT (aC (dS (pv 3)) (aC (dS (pv 4)) (aC (dO or_add oc_add (dX (dX (dP (pv 2)) (dNeg cI)) cI) (dC (pv 5))) a0)))) (gX (pv 2) (dNeg cI)))) (bOne (sE (dMt PySem.F.slot_list_append PySem.F.type_list_append mt_append lo_app (pv 2) (aC (dT (aC (dS (pv 3)) (aC (dS (pv 4)) (aC (dS (pv 5)) a0)))) a0)))))))
    (bOne (sR (dT (aC cS (aC (dM (pv 0)) (aC (dM (pv 2)) a0))))))))
theorem g_renamed_by (T : TT P K mg) : Dn P w K mg base 2 "renamed_by" s_renamed_by ["web", "order"] F_renamed_by := Dn.of T.d_renamed_by fun f fd F => fnD (k := 1) F sc_renamed_by fun cdv A outer s H E hr hg =>
    have tk : Takes (cxOf (L2.CX P w) P w K mg base N_renamed_by "renamed_by" (defScope s_renamed_by) f cdv A outer s H E) (fun cls d _ H => E cls d H) := takes_of rfl rfl rfl rfl
    (bCons (sNL (own := [("high", 3), ("low", 4), ("number", 5)]) rfl sc_renamed_by.nd (i := 2) rfl rfl rfl (iS (dCl (g_ties_in T) hr hg (passAt tk) (aC (dS (pv 0)) a0) (argsC_len args0_len))) (by exact blkOk_by (N := N_renamed_by) (sc := defScope s_renamed_by) (own := [("high", 3), ("low", 4), ("number", 5)]) (by decide +kernel)) (fun s H C cl fp => (gT rfl (gsC (gN (pg_name sc_renamed_by.nd rfl (by first | exact .inl rfl | exact .inr rfl))) (gsC (gN (pg_name sc_renamed_by.nd rfl (by first | exact .inl rfl | exact .inr rfl))) (gsC (gN (pg_name sc_renamed_by.nd rfl (by first | exact .inl rfl | exact .inr rfl))) gs0))))) (fun s H C cl fp => q0) (fun s H C cl fp => (dT (aC (dIdxV (dS (pv 1)) (aC (dS (pv 4)) a0)) (aC (dIdxV (dS (pv 1)) (aC (dS (pv 3)) a0)) (aC (dS (pv 5)) a0))))))
    (bOne (sR (dCl (g_web_of T) hr hg (passAt tk) (aC (dCl (g_many_in T) hr hg (passAt tk) (aC (dS (pv 0)) a0) (argsC_len args0_len)) (aC (dS (pv 2)) a0)) (argsC_len (argsC_len args0_len))))))
theorem g_renamed_web (T : TT P K mg) : Dn P w K mg base 5 "renamed_web" s_renamed_web ["web", "order"] F_renamed_web := Dn.of T.d_renamed_web fun f fd F => fnD (k := 4) F sc_renamed_web fun cdv A outer s H E hr hg =>
    have tk : Takes (cxOf (L2.CX P w) P w K mg base N_renamed_web "renamed_web" (defScope s_renamed_web) f cdv A outer s H E) (fun cls d _ H => E cls d H) := takes_of rfl rfl rfl rfl
    (bCons (sE (dCl (g_check_web T) hr hg (passAt tk) (aC (dS (pv 0)) a0) (argsC_len args0_len)))
    (bCons (sI (tN (tV (dCl (g_is_order_by T) hr hg (passAt tk) (aC (dCl (g_many_in T) hr hg (passAt tk) (aC (dS (pv 0)) a0) (argsC_len args0_len)) (aC (dS (pv 1)) a0)) (argsC_len (argsC_len args0_len))))) (bOne (sRse T.x_exc rfl tk hr (dS (pv 1)))) bNil)
    (bOne (sR (dCl (g_renamed_by T) hr hg (passAt tk) (aC (dS (pv 0)) (aC (dS (pv 1)) a0)) (argsC_len (argsC_len args0_len)))))))
theorem g_orders_of (T : TT P K mg) : Dn P w K mg base 1 "orders_of" s_orders_of ["many"] F_orders_of := Dn.of T.d_orders_of fun f fd F => fnD (k := 0) F sc_orders_of fun cdv A outer s H E hr hg =>
    have tk : Takes (cxOf (L2.CX P w) P w K mg base N_orders_of "orders_of" (defScope s_orders_of) f cdv A outer s H E) (fun cls d _ H => E cls d H) := takes_of rfl rfl rfl rfl
    (bCons (sN sc_orders_of.nd (i := 1) rfl (by first | exact .inl rfl | exact .inr rfl) (dL (aC (dL a0) a0)))
    (bCons (sF (passes_of rfl) rfl (i1 (by rfl) T.z_range (aC (dP (pv 0)) a0)) (gN (pg_name sc_orders_of.nd rfl (by first | exact .inl rfl | exact .inr rfl))) (bCons (sN sc_orders_of.nd (i := 3) rfl (by first | exact .inl rfl | exact .inr rfl) (dL a0))
    (bCons (sF (passes_of rfl) rfl (iS (dS (pv 1))) (gN (pg_name sc_orders_of.nd rfl (by first | exact .inl rfl | exact .inr rfl))) (bOne (sN sc_orders_of.nd (i := 3) rfl (by first | exact .inl rfl | exact .inr rfl) (dCat (dM (pv 3)) (dLC (own := [("point", 5)]) rfl sc_orders_of.nd (i1 (by rfl) T.z_range (aC (dP (pv 0)) a0)) (by exact blkOk_by (N := N_orders_of) (sc := defScope s_orders_of) (own := [("point", 5)]) (by decide +kernel)) (fun s H C cl fp => (gN (pg_name sc_orders_of.nd rfl (by first | exact .inl rfl | exact .inr rfl)))) (fun s H C cl fp => (q1 (tI (or_nin (u65 hr)) oi_nin (dP (pv 5)) (dP (pv 4))))) (fun s H C cl fp => (dO or_add oc_add (dC (pv 4)) (dL (aC (dS (pv 5)) a0)))))))))
    (bOne (sN sc_orders_of.nd (i := 1) rfl (by first | exact .inl rfl | exact .inr rfl) (dM (pv 3)))))))
    (bOne (sR (dM (pv 1))))))
theorem g_renaming (T : TT P K mg) : Dn P w K mg base 5 "renaming" s_renaming ["one", "other"] F_renaming := Dn.of T.d_renaming fun f fd F => fnD (k := 4) F sc_renaming fun cdv A outer s H E hr hg =>
    have tk : Takes (cxOf (L2.CX P w) P w K mg base N_renaming "renaming" (defScope s_renaming) f cdv A outer s H E) (fun cls d _ H => E cls d H) := takes_of rfl rfl rfl rfl
    (bCons (sE (dCl (g_check_web T) hr hg (passAt tk) (aC (dS (pv 0)) a0) (argsC_len args0_len)))
    (bCons (sE (dCl (g_check_web T) hr hg (passAt tk) (aC (dS (pv 1)) a0) (argsC_len args0_len)))
    (bCons (sI (tI (or_ne (u64 hr)) oi_neE (dCl (g_many_in T) hr hg (passAt tk) (aC (dS (pv 0)) a0) (argsC_len args0_len)) (dCl (g_many_in T) hr hg (passAt tk) (aC (dS (pv 1)) a0) (argsC_len args0_len))) (bOne (sR cN)) bNil)
    (bCons (sF (passes_of rfl) rfl (iS (dThD (dCl (g_orders_of T) hr hg (passAt tk) (aC (dCl (g_many_in T) hr hg (passAt tk) (aC (dS (pv 0)) a0) (argsC_len args0_len)) a0) (argsC_len args0_len)))) (gN (pg_name sc_renaming.nd rfl (by first | exact .inl rfl | exact .inr rfl))) (bOne (sI (tI (or_eq (u64 hr)) oi_eqE (dX (dCl (g_renamed_by T) hr hg (passAt tk) (aC (dS (pv 0)) (aC (dS (pv 2)) a0)) (argsC_len (argsC_len args0_len))) cI) (dCl (g_ties_in T) hr hg (passAt tk) (aC (dS (pv 1)) a0) (argsC_len args0_len))) (bOne (sR (dM (pv 2)))) bNil)))
    (bOne (sR cN))))))
theorem g__law_caught (T : TT P K mg) : Dn P w K mg base 6 "_law_caught" s__law_caught ["door", "args"] F__law_caught := Dn.of T.d__law_caught fun f fd F => fnD (k := 5) F sc__law_caught fun cdv A outer s H E hr hg =>
    have tk : Takes (cxOf (L2.CX P w) P w K mg base N__law_caught "_law_caught" (defScope s__law_caught) f cdv A outer s H E) (fun cls d _ H => E cls d H) := takes_of rfl rfl rfl rfl
    (bCons (s2 (i := 2) (j := 3) rfl sc__law_caught.nd rfl rfl (by decide) rfl rfl (aC cN (aC (fI ci_repr (cr_repr hg (u70 hr)) T.z_repr (aC (dP (pv 1)) a0)) a0)) (by rfl))
    (bCons (sTryK (i := 4) (j := 2) T.x_exc rfl rfl sc__law_caught.nd rfl rfl rfl rfl (by decide) rfl rfl (by decide) (by decide) rfl tk (fun W pn xe tk => (bOne (sE (dCallV (L := 2) (dX (dL (aC (gDf T.d_renamed_web) (aC (gDf T.d_renaming) a0))) (dP (pv 0))) (List.forall_mem_cons.mpr ⟨⟨5, _, _, by decide, rfl, g_renamed_web T⟩, (List.forall_mem_cons.mpr ⟨⟨5, _, _, by decide, rfl, g_renaming T⟩, (List.forall_mem_nil _)⟩)⟩) hr hg (passAt tk) (aC (dX (dP (pv 1)) cI) (aC (dX (dP (pv 1)) cI) a0)) (argsC_len (argsC_len args0_len)))))))
    (bCons (sI (PW.pt (wO (tI or_is oi_is (dP (pv 2)) cN) (wO1 (tI (or_ne (u64 hr)) oi_neE (fI ci_repr (cr_repr hg (u70 hr)) T.z_repr (aC (dP (pv 1)) a0)) (dP (pv 3)))))) (bOne (sR cS)) bNil)
    (bCons (sN sc__law_caught.nd (i := 5) rfl (by first | exact .inl rfl | exact .inr rfl) (dL (aC (fI (ci_isaX T.x_exc) cr_isX T.z_isinstance (aC (dP (pv 2)) (aC (gEx T.x_exc) a0))) (aC (fI (ci_isaX T.x_exc) cr_isX T.z_isinstance (aC (dP (pv 2)) (aC (gEx T.x_exc) a0))) a0))))
    (bOne (sR (fI ci_repr (cr_repr hg (u70 hr)) T.z_repr (aC (dO or_add oc_add (dC (pv 5)) (dL (aC (dVal T.x_exc (dP (pv 2))) a0))) a0))))))))
theorem g__law_exact (T : TT P K mg) : ∀ n : Nat, Dn P w K mg base (0 + n) "_law_exact" s__law_exact ["due", "told"] (F__law_exact n)
  | 0 => Dn.of T.d__law_exact fun _ _ _ => FnG.never
  | n + 1 => Dn.of T.d__law_exact fun a fd F => by
    have ih := g__law_exact T n
    show FnG P w K mg base (0 + n + 1) a fd _ (runB 3 (m__law_exact (F__law_exact n)))
    generalize F__law_exact n = f at ih ⊢
    exact fnD (k := 0 + n) (B := m__law_exact f) F sc__law_exact fun cdv A outer s H E hr hg =>
    have tk : Takes (cxOf (L2.CX P w) P w K mg base N__law_exact "_law_exact" (defScope s__law_exact) a cdv A outer s H E) (fun cls d _ H => E cls d H) := takes_of rfl rfl rfl rfl
    (bCons (sI (tV (fI ci_isaT cr_isaS T.z_isinstance (aC (dP (pv 0)) (aC (dT (aC (gTy T.z_list) (aC (gTy T.z_tuple) a0))) a0)))) (bCons (sI (PW.pt (wO (tI (or_ne (u64 hr)) oi_neE (fI ci_isa call_isi T.z_isinstance (aC (dP (pv 0)) (aC (gTy T.z_list) a0))) (fI ci_isa call_isi T.z_isinstance (aC (dP (pv 1)) (aC (gTy T.z_list) a0)))) (wO1 (tI (or_ne (u64 hr)) oi_neE (fI ci_isa call_isi T.z_isinstance (aC (dP (pv 0)) (aC (gTy T.z_tuple) a0))) (fI ci_isa call_isi T.z_isinstance (aC (dP (pv 1)) (aC (gTy T.z_tuple) a0))))))) (bOne (sR cB)) bNil)
    (bOne (sR (dA (dI (or_eq (u64 hr)) oi_eqE (fI ci_len call_len T.z_len (aC (dP (pv 1)) a0)) (fI ci_len call_len T.z_len (aC (dP (pv 0)) a0))) (d1 (dI (or_eq (u64 hr)) oi_eqE (dLC (own := [("at", 2)]) rfl sc__law_exact.nd (i1 (by rfl) T.z_range (aC (fI ci_len call_len T.z_len (aC (dP (pv 0)) a0)) a0)) (by exact blkOk_by (N := N__law_exact) (sc := defScope s__law_exact) (own := [("at", 2)]) (by decide +kernel)) (fun s H C cl fp => (gN (pg_name sc__law_exact.nd rfl (by first | exact .inl rfl | exact .inr rfl)))) (fun s H C cl fp => (q1 (tN (tV (dCl ih hr hg (passAt takes0) (aC (dX (dP (pv 0)) (dP (pv 2))) (aC (dX (dP (pv 1)) (dP (pv 2))) a0)) (argsC_len (argsC_len args0_len)) (by omega)))))) (fun s H C cl fp => (dS (pv 2)))) (dL a0))))))) bNil)
    (bCons (sI (PW.pt (wO (tI or_is oi_is (dP (pv 0)) cN) (wO1 (tV (fI ci_isa call_isi T.z_isinstance (aC (dP (pv 0)) (aC (gTy T.z_bool) a0))))))) (bOne (sR (dOr (dA (dI or_is oi_is (dP (pv 0)) cN) (d1 (dI or_is oi_is (dP (pv 1)) cN))) (dOr (dA (dI or_is oi_is (dP (pv 0)) cB) (d1 (dI or_is oi_is (dP (pv 1)) cB))) (d1 (dA (dI or_is oi_is (dP (pv 0)) cB) (d1 (dI or_is oi_is (dP (pv 1)) cB)))))))) bNil)
    (bCons (sI (tV (fI ci_isa call_isi T.z_isinstance (aC (dP (pv 0)) (aC (gTy T.z_str) a0)))) (bOne (sR (dA (fI ci_isa call_isi T.z_isinstance (aC (dP (pv 1)) (aC (gTy T.z_str) a0))) (d1 (dI (or_eq (u64 hr)) oi_eqE (dP (pv 1)) (dP (pv 0))))))) bNil)
    (bOne (sR (dA (fI ci_isa call_isi T.z_isinstance (aC (dP (pv 1)) (aC (gTy T.z_int) a0))) (dA (dN (fI ci_isa call_isi T.z_isinstance (aC (dP (pv 1)) (aC (gTy T.z_bool) a0)))) (d1 (dI (or_eq (u64 hr)) oi_eqE (dP (pv 1)) (dP (pv 0)))))))))))
theorem g__law_cell (T : TT P K mg) : Dn P w K mg base 1 "_law_cell" s__law_cell ["script", "index"] F__law_cell := Dn.of T.d__law_cell fun f fd F => fnD (k := 0) F sc__law_cell fun cdv A outer s H E hr hg =>
    have tk : Takes (cxOf (L2.CX P w) P w K mg base N__law_cell "_law_cell" (defScope s__law_cell) f cdv A outer s H E) (fun cls d _ H => E cls d H) := takes_of rfl rfl rfl rfl
    (bCons (sI (tI (or_lt (u0 hr)) oi_lt (dP (pv 1)) (fI ci_len call_len T.z_len (aC (dP (pv 0)) a0))) (bOne (sR (dX (dP (pv 0)) (dP (pv 1))))) bNil)
    (bOne (sR (dO op_modN oc_mod (fI ci_sum (cr_sum rfl) T.z_sum (aC (dSl (dC (pv 0)) oN (oS cI)) a0)) cI))))
theorem g__law_generator (T : TT P K mg) : Dn P w K mg base 2 "_law_generator" s__law_generator ["script", "index"] F__law_generator := Dn.of T.d__law_generator fun f fd F => fnD (k := 1) F sc__law_generator fun cdv A outer s H E hr hg =>
    have tk : Takes (cxOf (L2.CX P w) P w K mg base N__law_generator "_law_generator" (defScope s__law_generator) f cdv A outer s H E) (fun cls d _ H => E cls d H) := takes_of rfl rfl rfl rfl
    (bCons (sN sc__law_generator.nd (i := 2) rfl (by first | exact .inl rfl | exact .inr rfl) (dCl (g__law_cell T) hr hg (passAt tk) (aC (dS (pv 0)) (aC (dS (pv 1)) a0)) (argsC_len (argsC_len args0_len))))
    (bOne (sR (dL (aC (dO op_modN oc_mod (yI ci_int call_int1 T.z_int (aC (fI ci_max (cr_maxA rfl) T.z_max (aC (dO op_sub oc_sub (dC (pv 2)) (dO or_pow oc_pow cI cI)) (aC cI a0))) a0)) (dO or_pow oc_pow (dO or_pow oc_pow cI cI) cI)) (aC (dO op_modN oc_mod (yI ci_int call_int1 T.z_int (aC (dP (pv 2)) a0)) cI) (aC (dO or_mul oc_mul cI (dC (pv 1))) a0)))))))
theorem g__law_hash (T : TT P K mg) : Dn P w K mg base 1 "_law_hash" s__law_hash ["seed", "index"] F__law_hash := Dn.of T.d__law_hash fun f fd F => fnD (k := 0) F sc__law_hash fun cdv A outer s H E hr hg =>
    have tk : Takes (cxOf (L2.CX P w) P w K mg base N__law_hash "_law_hash" (defScope s__law_hash) f cdv A outer s H E) (fun cls d _ H => E cls d H) := takes_of rfl rfl rfl rfl
    (bCons (sN sc__law_hash.nd (i := 2) rfl (by first | exact .inl rfl | exact .inr rfl) (dO op_modN oc_mod (yI ci_int call_int1 T.z_int (aC (dO or_add oc_add (dO or_add oc_add (dO or_add oc_add (dO or_mul oc_mul (dC (pv 0)) cI) (dO or_mul oc_mul (dO or_mul oc_mul cI (dC (pv 1))) (dC (pv 1)))) (dO or_mul oc_mul cI (dC (pv 1)))) cI) a0)) cI))
    (bCons (sN sc__law_hash.nd (i := 2) rfl (by first | exact .inl rfl | exact .inr rfl) (dO op_modN oc_mod (yI ci_int call_int1 T.z_int (aC (dO or_add oc_add (dO or_add oc_add (dO or_mul oc_mul (dC (pv 2)) (dC (pv 2))) (dO or_mul oc_mul cI (dC (pv 1)))) cI) a0)) cI))
    (bOne (sR (dO op_modN oc_mod (yI ci_int call_int1 T.z_int (aC (dO or_mul oc_mul (dC (pv 2)) cI) a0)) cI)))))
theorem g__law_random (T : TT P K mg) : Dn P w K mg base 2 "_law_random" s__law_random ["generator", "bound"] F__law_random := Dn.of T.d__law_random fun f fd F => fnD (k := 1) F sc__law_random fun cdv A outer s H E hr hg =>
    have tk : Takes (cxOf (L2.CX P w) P w K mg base N__law_random "_law_random" (defScope s__law_random) f cdv A outer s H E) (fun cls d _ H => E cls d H) := takes_of rfl rfl rfl rfl
    (bCons (sI (tI op_gt oi_int (dX (dP (pv 0)) cI) cI) (bCons (sN sc__law_random.nd (i := 2) rfl (by first | exact .inl rfl | exact .inr rfl) (dO op_modN oc_mod (yI ci_int call_int1 T.z_int (aC (dX (dP (pv 0)) cI) a0)) (dC (pv 1))))
    (bCons (sA (dO op_fdivN oc_div (dX (dP (pv 0)) cI) (dC (pv 1))) (gX (pv 0) cI))
    (bOne (sR (dM (pv 2)))))) bNil)
    (bCons (sN sc__law_random.nd (i := 2) rfl (by first | exact .inl rfl | exact .inr rfl) cI)
    (bCons (sF (passes_of rfl) rfl (i1 (by rfl) T.z_range (aC (dO or_add oc_add cI (dO op_fdivN oc_div (dBits (dP (pv 1))) cI)) a0)) (gN (pg_name sc__law_random.nd rfl (by first | exact .inl rfl | exact .inr rfl))) (bCons (sA (dO or_add oc_add (dX (dP (pv 0)) cI) cI) (gX (pv 0) cI))
    (bOne (sN sc__law_random.nd (i := 2) rfl (by first | exact .inl rfl | exact .inr rfl) (dO or_add oc_add (dO or_mul oc_mul (dC (pv 2)) cI) (dCl (g__law_hash T) hr hg (passAt tk) (aC (dX (dP (pv 0)) cI) (aC (dX (dP (pv 0)) cI) a0)) (argsC_len (argsC_len args0_len))))))))
    (bOne (sR (dO op_modN oc_mod (yI ci_int call_int1 T.z_int (aC (dP (pv 2)) a0)) (dC (pv 1))))))))
theorem g__law_pick (T : TT P K mg) : Dn P w K mg base 3 "_law_pick" s__law_pick ["generator", "things"] F__law_pick := Dn.of T.d__law_pick fun f fd F => fnD (k := 2) F sc__law_pick fun cdv A outer s H E hr hg =>
    have tk : Takes (cxOf (L2.CX P w) P w K mg base N__law_pick "_law_pick" (defScope s__law_pick) f cdv A outer s H E) (fun cls d _ H => E cls d H) := takes_of rfl rfl rfl rfl
    (bOne (sR (dX (dP (pv 1)) (dCl (g__law_random T) hr hg (passAt tk) (aC (dS (pv 0)) (aC (fI ci_len call_len T.z_len (aC (dP (pv 1)) a0)) a0)) (argsC_len (argsC_len args0_len))))))
theorem g__law_bad_web (T : TT P K mg) : Dn P w K mg base 4 "_law_bad_web" s__law_bad_web ["generator", "web"] F__law_bad_web := Dn.of T.d__law_bad_web fun f fd F => fnD (k := 3) F sc__law_bad_web fun cdv A outer s H E hr hg =>
    have tk : Takes (cxOf (L2.CX P w) P w K mg base N__law_bad_web "_law_bad_web" (defScope s__law_bad_web) f cdv A outer s H E) (fun cls d _ H => E cls d H) := takes_of rfl rfl rfl rfl
    (bCons (sA (dS (pv 1)) (gT rfl (gsC (gN (pg_name sc__law_bad_web.nd rfl (by first | exact .inl rfl | exact .inr rfl))) (gsC (gN (pg_name sc__law_bad_web.nd rfl (by first | exact .inl rfl | exact .inr rfl))) (gsC (gN (pg_name sc__law_bad_web.nd rfl (by first | exact .inl rfl | exact .inr rfl))) gs0)))))
    (bCons (sN sc__law_bad_web.nd (i := 5) rfl (by first | exact .inl rfl | exact .inr rfl) (dL (aC cN (aC (dT a0) (aC (yC cc_list call_list_of T.z_list (aC (dC (pv 1)) a0)) (aC (dT (aC cS (aC (dS (pv 3)) (aC (dS (pv 4)) a0)))) (aC (dT (aC (dS (pv 2)) (aC (dS (pv 3)) a0))) (aC (dT (aC (dS (pv 2)) (aC cI (aC (dL a0) a0)))) (aC (dT (aC (dS (pv 2)) (aC cI (aC (dS (pv 4)) a0)))) (aC (dT (aC (dS (pv 2)) (aC cB (aC (dL a0) a0)))) (aC (dT (aC (dS (pv 2)) (aC (yI ci_str call_str_int T.z_str (aC (dP (pv 3)) a0)) (aC (dS (pv 4)) a0)))) a0)))))))))))
    (bCons (sN sc__law_bad_web.nd (i := 5) rfl (by first | exact .inl rfl | exact .inr rfl) (dO or_add oc_add (dC (pv 5)) (dL (aC (dT (aC (dS (pv 2)) (aC (dS (pv 3)) (aC (yC cc_tuple call_tuple_of T.z_tuple (aC (dC (pv 4)) a0)) a0)))) (aC (dT (aC cN (aC (dS (pv 3)) (aC (dS (pv 4)) a0)))) a0)))))
    (bCons (sN sc__law_bad_web.nd (i := 5) rfl (by first | exact .inl rfl | exact .inr rfl) (dO or_add oc_add (dC (pv 5)) (dL (aC (dT (aC (dS (pv 2)) (aC (dO or_add oc_add (dC (pv 3)) cI) (aC (dS (pv 4)) a0)))) (aC (dT (aC (dS (pv 2)) (aC (dS (pv 3)) (aC cN a0)))) (aC (dT (aC (dS (pv 2)) (aC cI (aC (dL (aC (dT (aC cI (aC cI (aC cI a0)))) a0)) a0)))) (aC (dT (aC (dS (pv 2)) (aC cI (aC (dL (aC (dT (aC cI (aC cI (aC cI a0)))) a0)) a0)))) (aC (dT (aC (dS (pv 2)) (aC cI (aC (dL (aC (dT (aC cI (aC cI (aC cI a0)))) a0)) a0)))) (aC (dT (aC (dS (pv 2)) (aC cI (aC (dL (aC (dT (aC cI (aC cI (aC cB a0)))) a0)) a0)))) (aC (dT (aC (dS (pv 2)) (aC cI (aC (dL (aC (dT (aC cI (aC cI a0))) a0)) a0)))) a0))))))))))
    (bCons (sN sc__law_bad_web.nd (i := 5) rfl (by first | exact .inl rfl | exact .inr rfl) (dO or_add oc_add (dC (pv 5)) (dL (aC (dT (aC (dS (pv 2)) (aC cI (aC (dL (aC (dL (aC cI (aC cI (aC cI a0)))) a0)) a0)))) (aC (dT (aC (dS (pv 2)) (aC cI (aC (dL (aC (dT (aC cI (aC cI (aC cI a0)))) a0)) a0)))) (aC (dT (aC (dS (pv 2)) (aC cI (aC (dL (aC (dT (aC cI (aC cI (aC cI a0)))) (aC (dT (aC cI (aC cI (aC cI a0)))) a0))) a0)))) (aC (dT (aC (dS (pv 2)) (aC cI (aC (dL (aC (dT (aC cI (aC cI (aC cI a0)))) (aC (dT (aC cI (aC cI (aC cI a0)))) a0))) a0)))) a0)))))))
    (bCons (sN sc__law_bad_web.nd (i := 5) rfl (by first | exact .inl rfl | exact .inr rfl) (dO or_add oc_add (dC (pv 5)) (dL (aC (dT (aC (dS (pv 2)) (aC cI (aC (dL (aC (dT (aC cI (aC cI (aC cI a0)))) (aC (dT (aC cI (aC cI (aC cI a0)))) a0))) a0)))) (aC (dT (aC (dS (pv 2)) (aC cI (aC (dL (aC (dT (aC cB (aC cI (aC cI a0)))) a0)) a0)))) a0)))))
    (bOne (sR (dCl (g__law_pick T) hr hg (passAt tk) (aC (dS (pv 0)) (aC (dS (pv 5)) a0)) (argsC_len (argsC_len args0_len)))))))))))
theorem g__law_hang (T : TT P K mg) : Dn P w K mg base 1 "_law_hang" s__law_hang ["many", "pairs"] F__law_hang := Dn.of T.d__law_hang fun f fd F => fnD (k := 0) F sc__law_hang fun cdv A outer s H E hr hg =>
    have tk : Takes (cxOf (L2.CX P w) P w K mg base N__law_hang "_law_hang" (defScope s__law_hang) f cdv A outer s H E) (fun cls d _ H => E cls d H) := takes_of rfl rfl rfl rfl
    (bCons (sN sc__law_hang.nd (i := 2) rfl (by first | exact .inl rfl | exact .inr rfl) (dL (aC cI a0)))
    (bCons (sF (passes_of rfl) rfl (i1 (by rfl) T.z_range (aC (dP (pv 0)) a0)) (gN (pg_name sc__law_hang.nd rfl (by first | exact .inl rfl | exact .inr rfl))) (bOne (sF (passes_of rfl) rfl (iS (dS (pv 1))) (gT rfl (gsC (gN (pg_name sc__law_hang.nd rfl (by first | exact .inl rfl | exact .inr rfl))) (gsC (gN (pg_name sc__law_hang.nd rfl (by first | exact .inl rfl | exact .inr rfl))) gs0))) (bCons (sN sc__law_hang.nd (i := 2) rfl (by first | exact .inl rfl | exact .inr rfl) (dO or_add oc_add (dC (pv 2)) (dO or_mul oc_mul (dL (aC (dS (pv 5)) a0)) (yI ci_int call_int1 T.z_int (aC (dA (dI (or_in (u65 hr)) oi_in (dP (pv 4)) (dP (pv 2))) (d1 (dI (or_nin (u65 hr)) oi_nin (dP (pv 5)) (dP (pv 2))))) a0)))))
    (bOne (sN sc__law_hang.nd (i := 2) rfl (by first | exact .inl rfl | exact .inr rfl) (dO or_add oc_add (dC (pv 2)) (dO or_mul oc_mul (dL (aC (dS (pv 4)) a0)) (yI ci_int call_int1 T.z_int (aC (dA (dI (or_in (u65 hr)) oi_in (dP (pv 5)) (dP (pv 2))) (d1 (dI (or_nin (u65 hr)) oi_nin (dP (pv 4)) (dP (pv 2))))) a0))))))))))
    (bOne (sR (dI (or_eq (u64 hr)) oi_eqE (fI ci_len call_len T.z_len (aC (dP (pv 2)) a0)) (dP (pv 0)))))))
theorem g__law_is_whole (T : TT P K mg) : Dn P w K mg base 1 "_law_is_whole" s__law_is_whole ["value"] F__law_is_whole := Dn.of T.d__law_is_whole fun f fd F => fnD (k := 0) F sc__law_is_whole fun cdv A outer s H E hr hg =>
    have tk : Takes (cxOf (L2.CX P w) P w K mg base N__law_is_whole "_law_is_whole" (defScope s__law_is_whole) f cdv A outer s H E) (fun cls d _ H => E cls d H) := takes_of rfl rfl rfl rfl
    (bOne (sR (dA (fI ci_isa call_isi T.z_isinstance (aC (dP (pv 0)) (aC (gTy T.z_int) a0))) (d1 (dN (fI ci_isa call_isi T.z_isinstance (aC (dP (pv 0)) (aC (gTy T.z_bool) a0))))))))
theorem g__law_is_web (T : TT P K mg) : Dn P w K mg base 2 "_law_is_web" s__law_is_web ["value"] F__law_is_web := Dn.of T.d__law_is_web fun f fd F => fnD (k := 1) F sc__law_is_web fun cdv A outer s H E hr hg =>
    have tk : Takes (cxOf (L2.CX P w) P w K mg base N__law_is_web "_law_is_web" (defScope s__law_is_web) f cdv A outer s H E) (fun cls d _ H => E cls d H) := takes_of rfl rfl rfl rfl
    (bCons (sI (PW.pt (wO (tN (tV (fI ci_isa call_isi T.z_isinstance (aC (dP (pv 0)) (aC (gTy T.z_tuple) a0))))) (wO (tI (or_ne (u64 hr)) oi_neE (fI ci_len call_len T.z_len (aC (dP (pv 0)) a0)) cI) (wO (tN (tV (fI ci_isa call_isi T.z_isinstance (aC (dX (dP (pv 0)) cI) (aC (gTy T.z_str) a0))))) (wO (tI (or_ne (u64 hr)) oi_neE (dX (dP (pv 0)) cI) cS) (wO (tN (tV (dCl (g__law_is_whole T) hr hg (passAt tk) (aC (dX (dP (pv 0)) cI) a0) (argsC_len args0_len)))) (wO1 (tN (tC2 op_le oi_int op_le oi_int cI (dX (dP (pv 0)) cI) cI))))))))) (bOne (sR cB)) bNil)
    (bCons (sI (tN (tV (fI ci_isa call_isi T.z_isinstance (aC (dX (dP (pv 0)) cI) (aC (gTy T.z_list) a0))))) (bOne (sR cB)) bNil)
    (bCons (sF (passes_of rfl) rfl (iE (by rfl) T.z_enumerate (aC (dX (dP (pv 0)) cI) a0)) (gT rfl (gsC (gN (pg_name sc__law_is_web.nd rfl (by first | exact .inl rfl | exact .inr rfl))) (gsC (gN (pg_name sc__law_is_web.nd rfl (by first | exact .inl rfl | exact .inr rfl))) gs0))) (bCons (sI (PW.pt (wO (tN (tV (fI ci_isa call_isi T.z_isinstance (aC (dP (pv 2)) (aC (gTy T.z_tuple) a0))))) (wO (tI (or_ne (u64 hr)) oi_neE (fI ci_len call_len T.z_len (aC (dP (pv 2)) a0)) cI) (wO1 (tI (or_ne (u64 hr)) oi_neE (dLC (own := [("one", 3)]) rfl sc__law_is_web.nd (iS (dS (pv 2))) (by exact blkOk_by (N := N__law_is_web) (sc := defScope s__law_is_web) (own := [("one", 3)]) (by decide +kernel)) (fun s H C cl fp => (gN (pg_name sc__law_is_web.nd rfl (by first | exact .inl rfl | exact .inr rfl)))) (fun s H C cl fp => (q1 (tN (tV (dCl (g__law_is_whole T) hr hg (passAt takes0) (aC (dS (pv 3)) a0) (argsC_len args0_len)))))) (fun s H C cl fp => (dS (pv 3)))) (dL a0)))))) (bOne (sR cB)) bNil)
    (bOne (sI (PW.pt (wO (tN (tC3 op_le oi_int (or_lt (u0 hr)) oi_lt (or_lt (u0 hr)) oi_lt cI (dX (dP (pv 2)) cI) (dX (dP (pv 2)) cI) (dX (dP (pv 0)) cI))) (wO (tN (tC2 op_le oi_int op_le oi_int cI (dX (dP (pv 2)) cI) cI)) (wO1 (PW.pt (wA (tI op_gt oi_int (dP (pv 1)) cI) (wA1 (tI (or_ge (u0 hr)) oi_ge (dSl (dX (dX (dP (pv 0)) cI) (dO op_sub oc_sub (dC (pv 1)) cI)) oN (oS cI)) (dSl (dC (pv 2)) oN (oS cI)))))))))) (bOne (sR cB)) bNil))))
    (bOne (sR (dCl (g__law_hang T) hr hg (passAt tk) (aC (dX (dP (pv 0)) cI) (aC (dLC (own := [("tie", 2)]) rfl sc__law_is_web.nd (iS (dX (dP (pv 0)) cI)) (by exact blkOk_by (N := N__law_is_web) (sc := defScope s__law_is_web) (own := [("tie", 2)]) (by decide +kernel)) (fun s H C cl fp => (gN (pg_name sc__law_is_web.nd rfl (by first | exact .inl rfl | exact .inr rfl)))) (fun s H C cl fp => q0) (fun s H C cl fp => (dSl (dC (pv 2)) oN (oS cI)))) a0)) (argsC_len (argsC_len args0_len))))))))
theorem g__law_no_web (T : TT P K mg) : Dn P w K mg base 5 "_law_no_web" s__law_no_web ["generator", "web"] F__law_no_web := Dn.of T.d__law_no_web fun f fd F => fnD (k := 4) F sc__law_no_web fun cdv A outer s H E hr hg =>
    have tk : Takes (cxOf (L2.CX P w) P w K mg base N__law_no_web "_law_no_web" (defScope s__law_no_web) f cdv A outer s H E) (fun cls d _ H => E cls d H) := takes_of rfl rfl rfl rfl
    (bCons (sN sc__law_no_web.nd (i := 2) rfl (by first | exact .inl rfl | exact .inr rfl) (dCl (g__law_bad_web T) hr hg (passAt tk) (aC (dS (pv 0)) (aC (dS (pv 1)) a0)) (argsC_len (argsC_len args0_len))))
    (bOne (sR (dIf (tV (dCl (g__law_is_web T) hr hg (passAt tk) (aC (dS (pv 2)) a0) (argsC_len args0_len))) cN (dM (pv 2))))))
theorem g__law_order (T : TT P K mg) : Dn P w K mg base 3 "_law_order" s__law_order ["generator", "size"] F__law_order := Dn.of T.d__law_order fun f fd F => fnD (k := 2) F sc__law_order fun cdv A outer s H E hr hg =>
    have tk : Takes (cxOf (L2.CX P w) P w K mg base N__law_order "_law_order" (defScope s__law_order) f cdv A outer s H E) (fun cls d _ H => E cls d H) := takes_of rfl rfl rfl rfl
    (bCons (s2 (i := 2) (j := 3) rfl sc__law_order.nd rfl rfl (by decide) rfl rfl (aC (dLR1 rfl (by rfl) T.z_list (by rfl) T.z_range (dP (pv 1))) (aC (dL a0) a0)) (by rfl))
    (bCons (sW fuel (passes_of rfl) (tI (or_ne (u64 hr)) oi_neE (dP (pv 2)) (dL a0)) (bOne (sE (dMt PySem.F.slot_list_append PySem.F.type_list_append mt_append lo_app (pv 3) (aC (dMt PySem.F.slot_list_pop PySem.F.type_list_pop mt_popAt lo_popAt (pv 2) (aC (dCl (g__law_random T) hr hg (passAt tk) (aC (dS (pv 0)) (aC (fI ci_len call_len T.z_len (aC (dP (pv 2)) a0)) a0)) (argsC_len (argsC_len args0_len))) a0)) a0)))))
    (bOne (sR (dM (pv 3))))))
theorem g__law_lists (T : TT P K mg) : ∀ n : Nat, Dn P w K mg base (0 + n) "_law_lists" s__law_lists ["thing"] (F__law_lists n)
  | 0 => Dn.of T.d__law_lists fun _ _ _ => FnG.never
  | n + 1 => Dn.of T.d__law_lists fun a fd F => by
    have ih := g__law_lists T n
    show FnG P w K mg base (0 + n + 1) a fd _ (runB 3 (m__law_lists (F__law_lists n)))
    generalize F__law_lists n = f at ih ⊢
    exact fnD (k := 0 + n) (B := m__law_lists f) F sc__law_lists fun cdv A outer s H E hr hg =>
    have tk : Takes (cxOf (L2.CX P w) P w K mg base N__law_lists "_law_lists" (defScope s__law_lists) a cdv A outer s H E) (fun cls d _ H => E cls d H) := takes_of rfl rfl rfl rfl
    (bCons (sN sc__law_lists.nd (i := 1) rfl (by first | exact .inl rfl | exact .inr rfl) (dIf (tV (fR ci_isa call_isi T.z_isinstance (aC (dP (pv 0)) (aC (gTy T.z_list) a0)))) (dL (aC (dS (pv 0)) a0)) (dL a0)))
    (bCons (sF (passes_of rfl) rfl (iS (dIf (tV (fR ci_isaT cr_isaS T.z_isinstance (aC (dP (pv 0)) (aC (dT (aC (gTy T.z_list) (aC (gTy T.z_tuple) a0))) a0)))) (dS (pv 0)) (dL a0))) (gN (pg_name sc__law_lists.nd rfl (by first | exact .inl rfl | exact .inr rfl))) (bOne (sN sc__law_lists.nd (i := 1) rfl (by first | exact .inl rfl | exact .inr rfl) (dO or_add oc_add (dC (pv 1)) (dCl ih hr hg (passAt tk) (aC (dS (pv 2)) a0) (argsC_len args0_len) (by omega))))))
    (bOne (sR (dM (pv 1))))))
theorem g__law_own (T : TT P K mg) : Dn P w K mg base 13 "_law_own" s__law_own ["generator", "told", "given"] F__law_own := Dn.of T.d__law_own fun f fd F => fnD (k := 12) F sc__law_own fun cdv A outer s H E hr hg =>
    have tk : Takes (cxOf (L2.CX P w) P w K mg base N__law_own "_law_own" (defScope s__law_own) f cdv A outer s H E) (fun cls d _ H => E cls d H) := takes_of rfl rfl rfl rfl
    (bCons (s2 (i := 3) (j := 4) rfl sc__law_own.nd rfl rfl (by decide) rfl rfl (aC (fR ci_repr (cr_repr hg (u70 hr)) T.z_repr (aC (dP (pv 2)) a0)) (aC (dCl (g__law_lists T 12) hr hg (passAt tk) (aC (dS (pv 1)) a0) (argsC_len args0_len)) a0)) (by rfl))
    (bCons (sF (passes_of rfl) rfl (i1 (by rfl) T.z_range (aC (fI ci_min (cr_minA rfl) T.z_min (aC cI (aC (fI ci_len call_len T.z_len (aC (dP (pv 4)) a0)) a0))) a0)) (gN (pg_name sc__law_own.nd rfl (by first | exact .inl rfl | exact .inr rfl))) (bCons (sN sc__law_own.nd (i := 6) rfl (by first | exact .inl rfl | exact .inr rfl) (dX (dP (pv 4)) (dCl (g__law_random T) hr hg (passAt tk) (aC (dS (pv 0)) (aC (fI ci_len call_len T.z_len (aC (dP (pv 4)) a0)) a0)) (argsC_len (argsC_len args0_len)))))
    (bCons (sE (dMt PySem.F.slot_list_append PySem.F.type_list_append mt_append lo_app (pv 6) (aC cS a0)))
    (bCons (sI (PW.pt (wO (tI (or_ne (u64 hr)) oi_neE (dCnt (fR ci_repr (cr_repr hg (u70 hr)) T.z_repr (aC (dP (pv 1)) a0)) cS) cI) (wO1 (tI (or_ne (u64 hr)) oi_neE (fR ci_repr (cr_repr hg (u70 hr)) T.z_repr (aC (dP (pv 2)) a0)) (dP (pv 3)))))) (bOne (sR cB)) bNil)
    (bOne (sE (dMt0 PySem.F.slot_list_pop PySem.F.type_list_pop mt_pop lo_pop (pv 6))))))))
    (bOne (sR cB))))
theorem g__law_made (T : TT P K mg) : Dn P w K mg base 1 "_law_made" s__law_made ["many", "ties"] F__law_made := Dn.of T.d__law_made fun f fd F => fnD (k := 0) F sc__law_made fun cdv A outer s H E hr hg =>
    have tk : Takes (cxOf (L2.CX P w) P w K mg base N__law_made "_law_made" (defScope s__law_made) f cdv A outer s H E) (fun cls d _ H => E cls d H) := takes_of rfl rfl rfl rfl
    (bCons (sN sc__law_made.nd (i := 2) rfl (by first | exact .inl rfl | exact .inr rfl) (dL a0))
    (bCons (sF (passes_of rfl) rfl (iS (fC cc_sor (cr_sor (u70 hr)) T.z_sorted (aC (dLC (own := [("one", 3), ("other", 4), ("number", 5)]) rfl sc__law_made.nd (iS (dS (pv 1))) (by exact blkOk_by (N := N__law_made) (sc := defScope s__law_made) (own := [("one", 3), ("other", 4), ("number", 5)]) (by decide +kernel)) (fun s H C cl fp => (gT rfl (gsC (gN (pg_name sc__law_made.nd rfl (by first | exact .inl rfl | exact .inr rfl))) (gsC (gN (pg_name sc__law_made.nd rfl (by first | exact .inl rfl | exact .inr rfl))) (gsC (gN (pg_name sc__law_made.nd rfl (by first | exact .inl rfl | exact .inr rfl))) gs0))))) (fun s H C cl fp => q0) (fun s H C cl fp => (dT (aC (fI ci_min (cr_minA rfl) T.z_min (aC (dP (pv 3)) (aC (dP (pv 4)) a0))) (aC (fI ci_max (cr_maxA rfl) T.z_max (aC (dP (pv 3)) (aC (dP (pv 4)) a0))) (aC (dS (pv 5)) a0)))))) a0))) (gT rfl (gsC (gN (pg_name sc__law_made.nd rfl (by first | exact .inl rfl | exact .inr rfl))) (gsC (gN (pg_name sc__law_made.nd rfl (by first | exact .inl rfl | exact .inr rfl))) (gsC (gN (pg_name sc__law_made.nd rfl (by first | exact .inl rfl | exact .inr rfl))) gs0)))) (bOne (sI (PW.pt (wA (tI (or_ne (u64 hr)) oi_neE (dP (pv 2)) (dL a0)) (wA1 (tI (or_eq (u64 hr)) oi_eqE (dSl (dX (dP (pv 2)) (dNeg cI)) oN (oS cI)) (dT (aC (dS (pv 3)) (aC (dS (pv 4)) a0))))))) (bOne (sA (dT (aC (dS (pv 3)) (aC (dS (pv 4)) (aC (dO or_add oc_add (dX (dX (dP (pv 2)) (dNeg cI)) cI) (dC (pv 5))) a0)))) (gX (pv 2) (dNeg cI)))) (bOne (sE (dMt PySem.F.slot_list_append PySem.F.type_list_append mt_append lo_app (pv 2) (aC (dT (aC (dS (pv 3)) (aC (dS (pv 4)) (aC (dS (pv 5)) a0)))) a0)))))))
    (bOne (sR (dT (aC cS (aC (dM (pv 0)) (aC (dM (pv 2)) a0))))))))
theorem g__law_renamed (T : TT P K mg) : Dn P w K mg base 2 "_law_renamed" s__law_renamed ["web", "order"] F__law_renamed := Dn.of T.d__law_renamed fun f fd F => fnD (k := 1) F sc__law_renamed fun cdv A outer s H E hr hg =>
    have tk : Takes (cxOf (L2.CX P w) P w K mg base N__law_renamed "_law_renamed" (defScope s__law_renamed) f cdv A outer s H E) (fun cls d _ H => E cls d H) := takes_of rfl rfl rfl rfl
    (bOne (sR (dCl (g__law_made T) hr hg (passAt tk) (aC (dX (dP (pv 0)) cI) (aC (dLC (own := [("high", 2), ("low", 3), ("number", 4)]) rfl sc__law_renamed.nd (iS (dX (dP (pv 0)) cI)) (by exact blkOk_by (N := N__law_renamed) (sc := defScope s__law_renamed) (own := [("high", 2), ("low", 3), ("number", 4)]) (by decide +kernel)) (fun s H C cl fp => (gT rfl (gsC (gN (pg_name sc__law_renamed.nd rfl (by first | exact .inl rfl | exact .inr rfl))) (gsC (gN (pg_name sc__law_renamed.nd rfl (by first | exact .inl rfl | exact .inr rfl))) (gsC (gN (pg_name sc__law_renamed.nd rfl (by first | exact .inl rfl | exact .inr rfl))) gs0))))) (fun s H C cl fp => q0) (fun s H C cl fp => (dT (aC (dIdx (dS (pv 1)) (aC (dS (pv 3)) a0)) (aC (dIdx (dS (pv 1)) (aC (dS (pv 2)) a0)) (aC (dS (pv 4)) a0)))))) a0)) (argsC_len (argsC_len args0_len)))))
theorem g__law_web (T : TT P K mg) : Dn P w K mg base 3 "_law_web" s__law_web ["generator", "most", "ties"] F__law_web := Dn.of T.d__law_web fun f fd F => fnD (k := 2) F sc__law_web fun cdv A outer s H E hr hg =>
    have tk : Takes (cxOf (L2.CX P w) P w K mg base N__law_web "_law_web" (defScope s__law_web) f cdv A outer s H E) (fun cls d _ H => E cls d H) := takes_of rfl rfl rfl rfl
    (bCons (sN sc__law_web.nd (i := 3) rfl (by first | exact .inl rfl | exact .inr rfl) (dO or_add oc_add cI (dCl (g__law_random T) hr hg (passAt tk) (aC (dS (pv 0)) (aC (dS (pv 1)) a0)) (argsC_len (argsC_len args0_len)))))
    (bCons (sNLt (own := [("point", 8)]) rfl sc__law_web.nd (i := 4) rfl rfl rfl (i2 (by rfl) T.z_range (aC cI (aC (dP (pv 3)) a0))) (by exact blkOk_by (N := N__law_web) (sc := defScope s__law_web) (own := [("point", 8)]) (by decide +kernel)) (fun s H C cl fp => (gN (pg_name sc__law_web.nd rfl (by first | exact .inl rfl | exact .inr rfl)))) (fun s H C cl fp => q0) (fun s H C cl fp => (dT (aC (dCl (g__law_random T) hr hg (passAt takes0) (aC (dS (pv 0)) (aC (dS (pv 8)) a0)) (argsC_len (argsC_len args0_len))) (aC (dS (pv 8)) (aC (dO or_add oc_add cI (dCl (g__law_random T) hr hg (passAt takes0) (aC (dS (pv 0)) (aC (dS (pv 2)) a0)) (argsC_len (argsC_len args0_len)))) a0))))))
    (bCons (sF (passes_of rfl) rfl (i1 (by rfl) T.z_range (aC (dCl (g__law_random T) hr hg (passAt tk) (aC (dS (pv 0)) (aC (dS (pv 3)) a0)) (argsC_len (argsC_len args0_len))) a0)) (gN (pg_name sc__law_web.nd rfl (by first | exact .inl rfl | exact .inr rfl))) (bCons (sA (dT (aC (dCl (g__law_random T) hr hg (passAt tk) (aC (dS (pv 0)) (aC (dS (pv 3)) a0)) (argsC_len (argsC_len args0_len))) (aC (dCl (g__law_random T) hr hg (passAt tk) (aC (dS (pv 0)) (aC (dS (pv 3)) a0)) (argsC_len (argsC_len args0_len))) a0))) (gT rfl (gsC (gN (pg_name sc__law_web.nd rfl (by first | exact .inl rfl | exact .inr rfl))) (gsC (gN (pg_name sc__law_web.nd rfl (by first | exact .inl rfl | exact .inr rfl))) gs0))))
    (bOne (sI (PW.pt (wA (tI (or_ne (u64 hr)) oi_neE (dP (pv 6)) (dP (pv 7))) (wA1 (tI (or_eq (u64 hr)) oi_eqE (dLC (own := [("row", 9)]) rfl sc__law_web.nd (iS (dS (pv 4))) (by exact blkOk_by (N := N__law_web) (sc := defScope s__law_web) (own := [("row", 9)]) (by decide +kernel)) (fun s H C cl fp => (gN (pg_name sc__law_web.nd rfl (by first | exact .inl rfl | exact .inr rfl)))) (fun s H C cl fp => (q1 (tI (or_in (u65 hr)) oi_in (dSl (dC (pv 9)) oN (oS cI)) (dL (aC (dT (aC (dS (pv 6)) (aC (dS (pv 7)) a0))) (aC (dT (aC (dS (pv 7)) (aC (dS (pv 6)) a0))) a0)))))) (fun s H C cl fp => (dS (pv 9)))) (dL a0))))) (bOne (sE (dMt PySem.F.slot_list_append PySem.F.type_list_append mt_append lo_app (pv 4) (aC (dT (aC (fI ci_min (cr_minA rfl) T.z_min (aC (dP (pv 6)) (aC (dP (pv 7)) a0))) (aC (fI ci_max (cr_maxA rfl) T.z_max (aC (dP (pv 6)) (aC (dP (pv 7)) a0))) (aC (dO or_add oc_add cI (dCl (g__law_random T) hr hg (passAt tk) (aC (dS (pv 0)) (aC (dS (pv 2)) a0)) (argsC_len (argsC_len args0_len)))) a0)))) a0)))) bNil))))
    (bOne (sR (dCl (g__law_made T) hr hg (passAt tk) (aC (dS (pv 3)) (aC (dS (pv 4)) a0)) (argsC_len (argsC_len args0_len))))))))
theorem g_law (T : TT P K mg) : Dn P w K mg base 14 "law" s_law ["script"] F_law := Dn.of T.d_law fun f fd F => fnD (k := 13) F sc_law fun cdv A outer s H E hr hg =>
    have tk : Takes (cxOf (L2.CX P w) P w K mg base N_law "law" (defScope s_law) f cdv A outer s H E) (fun cls d _ H => E cls d H) := takes_of rfl rfl rfl rfl
    (bCons (sF (passes_of rfl) rfl (i1 (by rfl) T.z_range (aC cI a0)) (gN (pg_name sc_law.nd rfl (by first | exact .inl rfl | exact .inr rfl))) (bCons (sN sc_law.nd (i := 2) rfl (by first | exact .inl rfl | exact .inr rfl) (dTh (dCl (g__law_generator T) hr hg (passAt tk) (aC (dS (pv 0)) (aC (dS (pv 1)) a0)) (argsC_len (argsC_len args0_len)))))
    (bCons (sN sc_law.nd (i := 3) rfl (by first | exact .inl rfl | exact .inr rfl) (dCl (g__law_web T) hr hg (passAt tk) (aC (dS (pv 2)) (aC cI (aC cI a0))) (argsC_len (argsC_len (argsC_len args0_len)))))
    (bCons (s2 (i := 4) (j := 5) rfl sc_law.nd rfl rfl (by decide) rfl rfl (aC (dCl (g__law_order T) hr hg (passAt tk) (aC (dS (pv 2)) (aC (dX (dP (pv 3)) cI) a0)) (argsC_len (argsC_len args0_len))) (aC (fI ci_repr (cr_repr hg (u70 hr)) T.z_repr (aC (dP (pv 3)) a0)) a0)) (by rfl))
    (bCons (s2 (i := 6) (j := 7) rfl sc_law.nd rfl rfl (by decide) rfl rfl (aC (dCl (g__law_renamed T) hr hg (passAt tk) (aC (dS (pv 3)) (aC (dS (pv 4)) a0)) (argsC_len (argsC_len args0_len))) (aC (dThD (dCl (g_renamed_web T) hr hg (passAt tk) (aC (dS (pv 3)) (aC (dS (pv 4)) a0)) (argsC_len (argsC_len args0_len)))) a0)) (by rfl))
    (bCons (sI (PW.pt (wO (tN (tV (dCl (g__law_exact T 12) hr hg (passAt tk) (aC (dSh (dL (aC (dS (pv 6)) (aC (dS (pv 6)) a0)))) (aC (dSh (dL (aC (dS (pv 7)) (aC (dCK0 (ks := (["order", "web"] : List Str)) (pm := [1, 0]) (g_renamed_web T) hr hg (passAt tk) (fun _ _ _ _ _ _ us ws h1 h2 => match us, ws, h1, h2 with | [], [_, _], _, _ => rfl) (kC (dS (pv 4)) (kC (dS (pv 3)) k0)) (argsC_len (argsC_len args0_len))) a0)))) a0)) (argsC_len (argsC_len args0_len))))) (wO1 (tN (tV (dCl (g__law_own T) hr hg (passAt tk) (aC (dS (pv 2)) (aC (dThD (dX (dP (pv 7)) cI)) (aC (dL (aC (dS (pv 3)) (aC (dS (pv 4)) a0))) a0))) (argsC_len (argsC_len (argsC_len args0_len))))))))) (bOne (sR cB)) bNil)
    (bCons (sF (passes_of rfl) rfl (iS (dL (aC (dS (pv 6)) (aC (dCl (g__law_web T) hr hg (passAt tk) (aC (dS (pv 2)) (aC cI (aC cI a0))) (argsC_len (argsC_len (argsC_len args0_len)))) a0)))) (gN (pg_name sc_law.nd rfl (by first | exact .inl rfl | exact .inr rfl))) (bCons (sNL (own := [("late", 15)]) rfl sc_law.nd (i := 9) rfl rfl rfl (iS (dCl (g__law_all T) hr hg (passAt tk) (aC (dX (dP (pv 3)) cI) a0) (argsC_len args0_len))) (by exact blkOk_by (N := N_law) (sc := defScope s_law) (own := [("late", 15)]) (by decide +kernel)) (fun s H C cl fp => (gN (pg_name sc_law.nd rfl (by first | exact .inl rfl | exact .inr rfl)))) (fun s H C cl fp => (q1 (PW.pt (wA (tI (or_eq (u64 hr)) oi_eqE (dX (dP (pv 8)) cI) (dX (dP (pv 3)) cI)) (wA1 (tI (or_eq (u64 hr)) oi_eqE (dCl (g__law_renamed T) hr hg (passAt takes0) (aC (dS (pv 3)) (aC (dS (pv 15)) a0)) (argsC_len (argsC_len args0_len))) (dP (pv 8)))))))) (fun s H C cl fp => (dS (pv 15))))
    (bCons (sN sc_law.nd (i := 10) rfl (by first | exact .inl rfl | exact .inr rfl) (dIf (tI (or_ne (u64 hr)) oi_neE (dP (pv 9)) (dL a0)) (dX (dP (pv 9)) cI) cN))
    (bCons (sI (tN (tV (dCl (g__law_exact T 12) hr hg (passAt tk) (aC (dSh (dL (aC (dS (pv 10)) (aC (dS (pv 10)) a0)))) (aC (dSh (dL (aC (dCl (g_renaming T) hr hg (passAt tk) (aC (dS (pv 3)) (aC (dS (pv 8)) a0)) (argsC_len (argsC_len args0_len))) (aC (dCK0 (ks := (["other", "one"] : List Str)) (pm := [1, 0]) (g_renaming T) hr hg (passAt tk) (fun _ _ _ _ _ _ us ws h1 h2 => match us, ws, h1, h2 with | [], [_, _], _, _ => rfl) (kC (dS (pv 8)) (kC (dS (pv 3)) k0)) (argsC_len (argsC_len args0_len))) a0)))) a0)) (argsC_len (argsC_len args0_len))))) (bOne (sR cB)) bNil)
    (bOne (sI (PW.pt (wA (tI or_isnt oi_isnt (dP (pv 10)) cN) (wA1 (tN (tV (dCl (g__law_own T) hr hg (passAt tk) (aC (dS (pv 2)) (aC (dThD (dCl (g_renaming T) hr hg (passAt tk) (aC (dS (pv 3)) (aC (dS (pv 8)) a0)) (argsC_len (argsC_len args0_len)))) (aC (dL (aC (dS (pv 3)) (aC (dS (pv 8)) a0))) a0))) (argsC_len (argsC_len (argsC_len args0_len))))))))) (bOne (sR cB)) bNil))))))
    (bCons (sA (dT (aC (dCl (g__law_no_web T) hr hg (passAt tk) (aC (dS (pv 2)) (aC (dS (pv 3)) a0)) (argsC_len (argsC_len args0_len))) (aC (dX (dP (pv 3)) cI) a0))) (gT rfl (gsC (gN (pg_name sc_law.nd rfl (by first | exact .inl rfl | exact .inr rfl))) (gsC (gN (pg_name sc_law.nd rfl (by first | exact .inl rfl | exact .inr rfl))) gs0))))
    (bCons (sN sc_law.nd (i := 13) rfl (by first | exact .inl rfl | exact .inr rfl) (dO or_add oc_add (dLC (own := [("late", 15), ("door", 16)]) rfl sc_law.nd (iS (dL (aC (dT (aC cI (aC cS a0))) (aC (dT (aC cI (aC cS a0))) (aC (dT (aC cI (aC (dS (pv 4)) a0))) (aC (dT (aC cI (aC (dS (pv 3)) a0))) a0)))))) (by exact blkOk_by (N := N_law) (sc := defScope s_law) (own := [("late", 15), ("door", 16)]) (by decide +kernel)) (fun s H C cl fp => (gT rfl (gsC (gN (pg_name sc_law.nd rfl (by first | exact .inl rfl | exact .inr rfl))) (gsC (gN (pg_name sc_law.nd rfl (by first | exact .inl rfl | exact .inr rfl))) gs0)))) (fun s H C cl fp => q0) (fun s H C cl fp => (dT (aC (dS (pv 16)) (aC (dT (aC (dS (pv 11)) (aC (dS (pv 15)) a0))) (aC (dL (aC cB (aC cB (aC (dS (pv 11)) a0)))) a0)))))) (dL (aC (dT (aC cI (aC (dT (aC (dS (pv 3)) (aC (dS (pv 11)) a0))) (aC (dL (aC cB (aC cB (aC (dS (pv 11)) a0)))) a0)))) a0))))
    (bCons (sF (passes_of rfl) rfl (iS (dL (aC cN (aC (dT a0) (aC (yC cc_tuple call_tuple_of T.z_tuple (aC (dC (pv 4)) a0)) (aC (dO or_add oc_add (dC (pv 4)) (dL (aC (dS (pv 12)) a0))) (aC (dSl (dC (pv 4)) (oS cI) oN) (aC (dO or_mul oc_mul (dL (aC cI a0)) (dO or_add oc_add (dC (pv 12)) cI)) (aC (dD0 pe_dnewK) (aC (dO or_mul oc_mul (dL (aC cN a0)) (dC (pv 12))) (aC (dO or_mul oc_mul (dL (aC cS a0)) (dC (pv 12))) (aC (dO or_add oc_add (dSl (dC (pv 4)) oN (oS (dNeg cI))) (dL (aC (dS (pv 12)) a0))) (aC (dLC (own := [("late", 15)]) rfl sc_law.nd (iS (dS (pv 4))) (by exact blkOk_by (N := N_law) (sc := defScope s_law) (own := [("late", 15)]) (by decide +kernel)) (fun s H C cl fp => (gN (pg_name sc_law.nd rfl (by first | exact .inl rfl | exact .inr rfl)))) (fun s H C cl fp => q0) (fun s H C cl fp => (dIf (tI (or_lt (u0 hr)) oi_lt (dP (pv 15)) cI) (dI (or_eq (u64 hr)) oi_eqE (dP (pv 15)) cI) (dS (pv 15))))) a0))))))))))))) (gN (pg_name sc_law.nd rfl (by first | exact .inl rfl | exact .inr rfl))) (bOne (sE (dMt PySem.F.slot_list_append PySem.F.type_list_append mt_append lo_app (pv 13) (aC (dT (aC cI (aC (dT (aC (dS (pv 3)) (aC (dS (pv 14)) a0))) (aC (dL (aC cB (aC cB (aC (dS (pv 14)) a0)))) a0)))) a0)))))
    (bOne (sI (PW.pt (wO (tI (or_ne (u64 hr)) oi_neE (dLC (own := [("ask", 17)]) rfl sc_law.nd (iS (dS (pv 13))) (by exact blkOk_by (N := N_law) (sc := defScope s_law) (own := [("ask", 17)]) (by decide +kernel)) (fun s H C cl fp => (gN (pg_name sc_law.nd rfl (by first | exact .inl rfl | exact .inr rfl)))) (fun s H C cl fp => (q1 (tI (or_ne (u64 hr)) oi_neE (dCl (g__law_caught T) hr hg (passAt takes0) (aC (dX (dP (pv 17)) cI) (aC (dX (dP (pv 17)) cI) a0)) (argsC_len (argsC_len args0_len))) (fI ci_repr (cr_repr hg (u70 hr)) T.z_repr (aC (dX (dP (pv 17)) cI) a0))))) (fun s H C cl fp => (dS (pv 17)))) (dL a0)) (wO1 (tI (or_ne (u64 hr)) oi_neE (fI ci_repr (cr_repr hg (u70 hr)) T.z_repr (aC (dP (pv 3)) a0)) (dP (pv 5)))))) (bOne (sR cB)) bNil))))))))))))
    (bOne (sR cB)))
end
theorem all_end {P : Program} {w : World} {K : PySem.W.Frag} {h : Heap} {mg : Str → Option Value} {fa : Addr} (X : K.In h) (G : h.Ns mainGlobals mg) (hmg : mg "law" = some (.ref fa))
    {f0 : Addr} {od0 an0 : Option Addr} {sl0 : Array (Option Value)} {oc0 kV0 dc0 pm0 cd0 ct0 : Value}
    {f1 : Addr} {od1 an1 : Option Addr} {sl1 : Array (Option Value)} {oc1 kV1 dc1 pm1 cd1 ct1 : Value}
    {f2 : Addr} {od2 an2 : Option Addr} {sl2 : Array (Option Value)} {oc2 kV2 dc2 pm2 cd2 ct2 : Value}
    {f3 : Addr} {od3 an3 : Option Addr} {sl3 : Array (Option Value)} {oc3 kV3 dc3 pm3 cd3 ct3 : Value}
    {f4 : Addr} {od4 an4 : Option Addr} {sl4 : Array (Option Value)} {oc4 kV4 dc4 pm4 cd4 ct4 : Value}
    {f5 : Addr} {od5 an5 : Option Addr} {sl5 : Array (Option Value)} {oc5 kV5 dc5 pm5 cd5 ct5 : Value}
    {f6 : Addr} {od6 an6 : Option Addr} {sl6 : Array (Option Value)} {oc6 kV6 dc6 pm6 cd6 ct6 : Value}
    {f7 : Addr} {od7 an7 : Option Addr} {sl7 : Array (Option Value)} {oc7 kV7 dc7 pm7 cd7 ct7 : Value}
    {f8 : Addr} {od8 an8 : Option Addr} {sl8 : Array (Option Value)} {oc8 kV8 dc8 pm8 cd8 ct8 : Value}
    {f9 : Addr} {od9 an9 : Option Addr} {sl9 : Array (Option Value)} {oc9 kV9 dc9 pm9 cd9 ct9 : Value}
    {f10 : Addr} {od10 an10 : Option Addr} {sl10 : Array (Option Value)} {oc10 kV10 dc10 pm10 cd10 ct10 : Value}
    {f11 : Addr} {od11 an11 : Option Addr} {sl11 : Array (Option Value)} {oc11 kV11 dc11 pm11 cd11 ct11 : Value}
    {f12 : Addr} {od12 an12 : Option Addr} {sl12 : Array (Option Value)} {oc12 kV12 dc12 pm12 cd12 ct12 : Value}
    {f13 : Addr} {od13 an13 : Option Addr} {sl13 : Array (Option Value)} {oc13 kV13 dc13 pm13 cd13 ct13 : Value}
    {f14 : Addr} {od14 an14 : Option Addr} {sl14 : Array (Option Value)} {oc14 kV14 dc14 pm14 cd14 ct14 : Value}
    {f15 : Addr} {od15 an15 : Option Addr} {sl15 : Array (Option Value)} {oc15 kV15 dc15 pm15 cd15 ct15 : Value}
    {f16 : Addr} {od16 an16 : Option Addr} {sl16 : Array (Option Value)} {oc16 kV16 dc16 pm16 cd16 ct16 : Value}
    {f17 : Addr} {od17 an17 : Option Addr} {sl17 : Array (Option Value)} {oc17 kV17 dc17 pm17 cd17 ct17 : Value}
    {f18 : Addr} {od18 an18 : Option Addr} {sl18 : Array (Option Value)} {oc18 kV18 dc18 pm18 cd18 ct18 : Value}
    {f19 : Addr} {od19 an19 : Option Addr} {sl19 : Array (Option Value)} {oc19 kV19 dc19 pm19 cd19 ct19 : Value}
    {f20 : Addr} {od20 an20 : Option Addr} {sl20 : Array (Option Value)} {oc20 kV20 dc20 pm20 cd20 ct20 : Value}
    {f21 : Addr} {od21 an21 : Option Addr} {sl21 : Array (Option Value)} {oc21 kV21 dc21 pm21 cd21 ct21 : Value}
    {f22 : Addr} {od22 an22 : Option Addr} {sl22 : Array (Option Value)} {oc22 kV22 dc22 pm22 cd22 ct22 : Value}
    {f23 : Addr} {od23 an23 : Option Addr} {sl23 : Array (Option Value)} {oc23 kV23 dc23 pm23 cd23 ct23 : Value}
    {f24 : Addr} {od24 an24 : Option Addr} {sl24 : Array (Option Value)} {oc24 kV24 dc24 pm24 cd24 ct24 : Value}
    {f25 : Addr} {od25 an25 : Option Addr} {sl25 : Array (Option Value)} {oc25 kV25 dc25 pm25 cd25 ct25 : Value}
    {f26 : Addr} {od26 an26 : Option Addr} {sl26 : Array (Option Value)} {oc26 kV26 dc26 pm26 cd26 ct26 : Value}
    {f27 : Addr} {od27 an27 : Option Addr} {sl27 : Array (Option Value)} {oc27 kV27 dc27 pm27 cd27 ct27 : Value}
    {f28 : Addr} {od28 an28 : Option Addr} {sl28 : Array (Option Value)} {oc28 kV28 dc28 pm28 cd28 ct28 : Value}
    {f29 : Addr} {od29 an29 : Option Addr} {sl29 : Array (Option Value)} {oc29 kV29 dc29 pm29 cd29 ct29 : Value}
    {f30 : Addr} {od30 an30 : Option Addr} {sl30 : Array (Option Value)} {oc30 kV30 dc30 pm30 cd30 ct30 : Value}
    {f31 : Addr} {od31 an31 : Option Addr} {sl31 : Array (Option Value)} {oc31 kV31 dc31 pm31 cd31 ct31 : Value}
    {f32 : Addr} {od32 an32 : Option Addr} {sl32 : Array (Option Value)} {oc32 kV32 dc32 pm32 cd32 ct32 : Value}
    {f33 : Addr} {od33 an33 : Option Addr} {sl33 : Array (Option Value)} {oc33 kV33 dc33 pm33 cd33 ct33 : Value}
    (a0 : PySem.W.nsIn K mainGlobals "_law_all" = some (some (.ref f0))) (l0 : K.lookup f0 = some ⟨oc0, od0, .func (PySem.W.fnOf "_law_all" "_law_all" (defArgs s__law_all) (defBody s__law_all) (defScope s__law_all) .none kV0 dc0 pm0 an0 cd0 ct0), sl0⟩) (c0 : PySem.W.codeIn K cd0 "_law_all" = true) (k0 : PySem.W.keepIn K (.ref f0) = true)
    (a1 : PySem.W.nsIn K mainGlobals "reached_from" = some (some (.ref f1))) (l1 : K.lookup f1 = some ⟨oc1, od1, .func (PySem.W.fnOf "reached_from" "reached_from" (defArgs s_reached_from) (defBody s_reached_from) (defScope s_reached_from) .none kV1 dc1 pm1 an1 cd1 ct1), sl1⟩) (c1 : PySem.W.codeIn K cd1 "reached_from" = true) (k1 : PySem.W.keepIn K (.ref f1) = true)
    (a2 : PySem.W.nsIn K mainGlobals "hang_together" = some (some (.ref f2))) (l2 : K.lookup f2 = some ⟨oc2, od2, .func (PySem.W.fnOf "hang_together" "hang_together" (defArgs s_hang_together) (defBody s_hang_together) (defScope s_hang_together) .none kV2 dc2 pm2 an2 cd2 ct2), sl2⟩) (c2 : PySem.W.codeIn K cd2 "hang_together" = true) (k2 : PySem.W.keepIn K (.ref f2) = true)
    (a3 : PySem.W.nsIn K mainGlobals "is_whole" = some (some (.ref f3))) (l3 : K.lookup f3 = some ⟨oc3, od3, .func (PySem.W.fnOf "is_whole" "is_whole" (defArgs s_is_whole) (defBody s_is_whole) (defScope s_is_whole) .none kV3 dc3 pm3 an3 cd3 ct3), sl3⟩) (c3 : PySem.W.codeIn K cd3 "is_whole" = true) (k3 : PySem.W.keepIn K (.ref f3) = true)
    (a4 : PySem.W.nsIn K mainGlobals "is_tie" = some (some (.ref f4))) (l4 : K.lookup f4 = some ⟨oc4, od4, .func (PySem.W.fnOf "is_tie" "is_tie" (defArgs s_is_tie) (defBody s_is_tie) (defScope s_is_tie) .none kV4 dc4 pm4 an4 cd4 ct4), sl4⟩) (c4 : PySem.W.codeIn K cd4 "is_tie" = true) (k4 : PySem.W.keepIn K (.ref f4) = true)
    (a5 : PySem.W.nsIn K mainGlobals "is_web_by" = some (some (.ref f5))) (l5 : K.lookup f5 = some ⟨oc5, od5, .func (PySem.W.fnOf "is_web_by" "is_web_by" (defArgs s_is_web_by) (defBody s_is_web_by) (defScope s_is_web_by) .none kV5 dc5 pm5 an5 cd5 ct5), sl5⟩) (c5 : PySem.W.codeIn K cd5 "is_web_by" = true) (k5 : PySem.W.keepIn K (.ref f5) = true)
    (a6 : PySem.W.nsIn K mainGlobals "check_web" = some (some (.ref f6))) (l6 : K.lookup f6 = some ⟨oc6, od6, .func (PySem.W.fnOf "check_web" "check_web" (defArgs s_check_web) (defBody s_check_web) (defScope s_check_web) .none kV6 dc6 pm6 an6 cd6 ct6), sl6⟩) (c6 : PySem.W.codeIn K cd6 "check_web" = true) (k6 : PySem.W.keepIn K (.ref f6) = true)
    (a7 : PySem.W.nsIn K mainGlobals "is_order_by" = some (some (.ref f7))) (l7 : K.lookup f7 = some ⟨oc7, od7, .func (PySem.W.fnOf "is_order_by" "is_order_by" (defArgs s_is_order_by) (defBody s_is_order_by) (defScope s_is_order_by) .none kV7 dc7 pm7 an7 cd7 ct7), sl7⟩) (c7 : PySem.W.codeIn K cd7 "is_order_by" = true) (k7 : PySem.W.keepIn K (.ref f7) = true)
    (a8 : PySem.W.nsIn K mainGlobals "many_in" = some (some (.ref f8))) (l8 : K.lookup f8 = some ⟨oc8, od8, .func (PySem.W.fnOf "many_in" "many_in" (defArgs s_many_in) (defBody s_many_in) (defScope s_many_in) .none kV8 dc8 pm8 an8 cd8 ct8), sl8⟩) (c8 : PySem.W.codeIn K cd8 "many_in" = true) (k8 : PySem.W.keepIn K (.ref f8) = true)
    (a9 : PySem.W.nsIn K mainGlobals "ties_in" = some (some (.ref f9))) (l9 : K.lookup f9 = some ⟨oc9, od9, .func (PySem.W.fnOf "ties_in" "ties_in" (defArgs s_ties_in) (defBody s_ties_in) (defScope s_ties_in) .none kV9 dc9 pm9 an9 cd9 ct9), sl9⟩) (c9 : PySem.W.codeIn K cd9 "ties_in" = true) (k9 : PySem.W.keepIn K (.ref f9) = true)
    (a10 : PySem.W.nsIn K mainGlobals "web_of" = some (some (.ref f10))) (l10 : K.lookup f10 = some ⟨oc10, od10, .func (PySem.W.fnOf "web_of" "web_of" (defArgs s_web_of) (defBody s_web_of) (defScope s_web_of) .none kV10 dc10 pm10 an10 cd10 ct10), sl10⟩) (c10 : PySem.W.codeIn K cd10 "web_of" = true) (k10 : PySem.W.keepIn K (.ref f10) = true)
    (a11 : PySem.W.nsIn K mainGlobals "renamed_by" = some (some (.ref f11))) (l11 : K.lookup f11 = some ⟨oc11, od11, .func (PySem.W.fnOf "renamed_by" "renamed_by" (defArgs s_renamed_by) (defBody s_renamed_by) (defScope s_renamed_by) .none kV11 dc11 pm11 an11 cd11 ct11), sl11⟩) (c11 : PySem.W.codeIn K cd11 "renamed_by" = true) (k11 : PySem.W.keepIn K (.ref f11) = true)
    (a12 : PySem.W.nsIn K mainGlobals "renamed_web" = some (some (.ref f12))) (l12 : K.lookup f12 = some ⟨oc12, od12, .func (PySem.W.fnOf "renamed_web" "renamed_web" (defArgs s_renamed_web) (defBody s_renamed_web) (defScope s_renamed_web) .none kV12 dc12 pm12 an12 cd12 ct12), sl12⟩) (c12 : PySem.W.codeIn K cd12 "renamed_web" = true) (k12 : PySem.W.keepIn K (.ref f12) = true)
    (a13 : PySem.W.nsIn K mainGlobals "orders_of" = some (some (.ref f13))) (l13 : K.lookup f13 = some ⟨oc13, od13, .func (PySem.W.fnOf "orders_of" "orders_of" (defArgs s_orders_of) (defBody s_orders_of) (defScope s_orders_of) .none kV13 dc13 pm13 an13 cd13 ct13), sl13⟩) (c13 : PySem.W.codeIn K cd13 "orders_of" = true) (k13 : PySem.W.keepIn K (.ref f13) = true)
    (a14 : PySem.W.nsIn K mainGlobals "renaming" = some (some (.ref f14))) (l14 : K.lookup f14 = some ⟨oc14, od14, .func (PySem.W.fnOf "renaming" "renaming" (defArgs s_renaming) (defBody s_renaming) (defScope s_renaming) .none kV14 dc14 pm14 an14 cd14 ct14), sl14⟩) (c14 : PySem.W.codeIn K cd14 "renaming" = true) (k14 : PySem.W.keepIn K (.ref f14) = true)
    (a15 : PySem.W.nsIn K mainGlobals "_law_caught" = some (some (.ref f15))) (l15 : K.lookup f15 = some ⟨oc15, od15, .func (PySem.W.fnOf "_law_caught" "_law_caught" (defArgs s__law_caught) (defBody s__law_caught) (defScope s__law_caught) .none kV15 dc15 pm15 an15 cd15 ct15), sl15⟩) (c15 : PySem.W.codeIn K cd15 "_law_caught" = true) (k15 : PySem.W.keepIn K (.ref f15) = true)
    (a16 : PySem.W.nsIn K mainGlobals "_law_exact" = some (some (.ref f16))) (l16 : K.lookup f16 = some ⟨oc16, od16, .func (PySem.W.fnOf "_law_exact" "_law_exact" (defArgs s__law_exact) (defBody s__law_exact) (defScope s__law_exact) .none kV16 dc16 pm16 an16 cd16 ct16), sl16⟩) (c16 : PySem.W.codeIn K cd16 "_law_exact" = true) (k16 : PySem.W.keepIn K (.ref f16) = true)
    (a17 : PySem.W.nsIn K mainGlobals "_law_cell" = some (some (.ref f17))) (l17 : K.lookup f17 = some ⟨oc17, od17, .func (PySem.W.fnOf "_law_cell" "_law_cell" (defArgs s__law_cell) (defBody s__law_cell) (defScope s__law_cell) .none kV17 dc17 pm17 an17 cd17 ct17), sl17⟩) (c17 : PySem.W.codeIn K cd17 "_law_cell" = true) (k17 : PySem.W.keepIn K (.ref f17) = true)
    (a18 : PySem.W.nsIn K mainGlobals "_law_generator" = some (some (.ref f18))) (l18 : K.lookup f18 = some ⟨oc18, od18, .func (PySem.W.fnOf "_law_generator" "_law_generator" (defArgs s__law_generator) (defBody s__law_generator) (defScope s__law_generator) .none kV18 dc18 pm18 an18 cd18 ct18), sl18⟩) (c18 : PySem.W.codeIn K cd18 "_law_generator" = true) (k18 : PySem.W.keepIn K (.ref f18) = true)
    (a19 : PySem.W.nsIn K mainGlobals "_law_hash" = some (some (.ref f19))) (l19 : K.lookup f19 = some ⟨oc19, od19, .func (PySem.W.fnOf "_law_hash" "_law_hash" (defArgs s__law_hash) (defBody s__law_hash) (defScope s__law_hash) .none kV19 dc19 pm19 an19 cd19 ct19), sl19⟩) (c19 : PySem.W.codeIn K cd19 "_law_hash" = true) (k19 : PySem.W.keepIn K (.ref f19) = true)
    (a20 : PySem.W.nsIn K mainGlobals "_law_random" = some (some (.ref f20))) (l20 : K.lookup f20 = some ⟨oc20, od20, .func (PySem.W.fnOf "_law_random" "_law_random" (defArgs s__law_random) (defBody s__law_random) (defScope s__law_random) .none kV20 dc20 pm20 an20 cd20 ct20), sl20⟩) (c20 : PySem.W.codeIn K cd20 "_law_random" = true) (k20 : PySem.W.keepIn K (.ref f20) = true)
    (a21 : PySem.W.nsIn K mainGlobals "_law_pick" = some (some (.ref f21))) (l21 : K.lookup f21 = some ⟨oc21, od21, .func (PySem.W.fnOf "_law_pick" "_law_pick" (defArgs s__law_pick) (defBody s__law_pick) (defScope s__law_pick) .none kV21 dc21 pm21 an21 cd21 ct21), sl21⟩) (c21 : PySem.W.codeIn K cd21 "_law_pick" = true) (k21 : PySem.W.keepIn K (.ref f21) = true)
    (a22 : PySem.W.nsIn K mainGlobals "_law_bad_web" = some (some (.ref f22))) (l22 : K.lookup f22 = some ⟨oc22, od22, .func (PySem.W.fnOf "_law_bad_web" "_law_bad_web" (defArgs s__law_bad_web) (defBody s__law_bad_web) (defScope s__law_bad_web) .none kV22 dc22 pm22 an22 cd22 ct22), sl22⟩) (c22 : PySem.W.codeIn K cd22 "_law_bad_web" = true) (k22 : PySem.W.keepIn K (.ref f22) = true)
    (a23 : PySem.W.nsIn K mainGlobals "_law_hang" = some (some (.ref f23))) (l23 : K.lookup f23 = some ⟨oc23, od23, .func (PySem.W.fnOf "_law_hang" "_law_hang" (defArgs s__law_hang) (defBody s__law_hang) (defScope s__law_hang) .none kV23 dc23 pm23 an23 cd23 ct23), sl23⟩) (c23 : PySem.W.codeIn K cd23 "_law_hang" = true) (k23 : PySem.W.keepIn K (.ref f23) = true)
    (a24 : PySem.W.nsIn K mainGlobals "_law_is_whole" = some (some (.ref f24))) (l24 : K.lookup f24 = some ⟨oc24, od24, .func (PySem.W.fnOf "_law_is_whole" "_law_is_whole" (defArgs s__law_is_whole) (defBody s__law_is_whole) (defScope s__law_is_whole) .none kV24 dc24 pm24 an24 cd24 ct24), sl24⟩) (c24 : PySem.W.codeIn K cd24 "_law_is_whole" = true) (k24 : PySem.W.keepIn K (.ref f24) = true)
    (a25 : PySem.W.nsIn K mainGlobals "_law_is_web" = some (some (.ref f25))) (l25 : K.lookup f25 = some ⟨oc25, od25, .func (PySem.W.fnOf "_law_is_web" "_law_is_web" (defArgs s__law_is_web) (defBody s__law_is_web) (defScope s__law_is_web) .none kV25 dc25 pm25 an25 cd25 ct25), sl25⟩) (c25 : PySem.W.codeIn K cd25 "_law_is_web" = true) (k25 : PySem.W.keepIn K (.ref f25) = true)
    (a26 : PySem.W.nsIn K mainGlobals "_law_no_web" = some (some (.ref f26))) (l26 : K.lookup f26 = some ⟨oc26, od26, .func (PySem.W.fnOf "_law_no_web" "_law_no_web" (defArgs s__law_no_web) (defBody s__law_no_web) (defScope s__law_no_web) .none kV26 dc26 pm26 an26 cd26 ct26), sl26⟩) (c26 : PySem.W.codeIn K cd26 "_law_no_web" = true) (k26 : PySem.W.keepIn K (.ref f26) = true)
    (a27 : PySem.W.nsIn K mainGlobals "_law_order" = some (some (.ref f27))) (l27 : K.lookup f27 = some ⟨oc27, od27, .func (PySem.W.fnOf "_law_order" "_law_order" (defArgs s__law_order) (defBody s__law_order) (defScope s__law_order) .none kV27 dc27 pm27 an27 cd27 ct27), sl27⟩) (c27 : PySem.W.codeIn K cd27 "_law_order" = true) (k27 : PySem.W.keepIn K (.ref f27) = true)
    (a28 : PySem.W.nsIn K mainGlobals "_law_lists" = some (some (.ref f28))) (l28 : K.lookup f28 = some ⟨oc28, od28, .func (PySem.W.fnOf "_law_lists" "_law_lists" (defArgs s__law_lists) (defBody s__law_lists) (defScope s__law_lists) .none kV28 dc28 pm28 an28 cd28 ct28), sl28⟩) (c28 : PySem.W.codeIn K cd28 "_law_lists" = true) (k28 : PySem.W.keepIn K (.ref f28) = true)
    (a29 : PySem.W.nsIn K mainGlobals "_law_own" = some (some (.ref f29))) (l29 : K.lookup f29 = some ⟨oc29, od29, .func (PySem.W.fnOf "_law_own" "_law_own" (defArgs s__law_own) (defBody s__law_own) (defScope s__law_own) .none kV29 dc29 pm29 an29 cd29 ct29), sl29⟩) (c29 : PySem.W.codeIn K cd29 "_law_own" = true) (k29 : PySem.W.keepIn K (.ref f29) = true)
    (a30 : PySem.W.nsIn K mainGlobals "_law_made" = some (some (.ref f30))) (l30 : K.lookup f30 = some ⟨oc30, od30, .func (PySem.W.fnOf "_law_made" "_law_made" (defArgs s__law_made) (defBody s__law_made) (defScope s__law_made) .none kV30 dc30 pm30 an30 cd30 ct30), sl30⟩) (c30 : PySem.W.codeIn K cd30 "_law_made" = true) (k30 : PySem.W.keepIn K (.ref f30) = true)
    (a31 : PySem.W.nsIn K mainGlobals "_law_renamed" = some (some (.ref f31))) (l31 : K.lookup f31 = some ⟨oc31, od31, .func (PySem.W.fnOf "_law_renamed" "_law_renamed" (defArgs s__law_renamed) (defBody s__law_renamed) (defScope s__law_renamed) .none kV31 dc31 pm31 an31 cd31 ct31), sl31⟩) (c31 : PySem.W.codeIn K cd31 "_law_renamed" = true) (k31 : PySem.W.keepIn K (.ref f31) = true)
    (a32 : PySem.W.nsIn K mainGlobals "_law_web" = some (some (.ref f32))) (l32 : K.lookup f32 = some ⟨oc32, od32, .func (PySem.W.fnOf "_law_web" "_law_web" (defArgs s__law_web) (defBody s__law_web) (defScope s__law_web) .none kV32 dc32 pm32 an32 cd32 ct32), sl32⟩) (c32 : PySem.W.codeIn K cd32 "_law_web" = true) (k32 : PySem.W.keepIn K (.ref f32) = true)
    (a33 : PySem.W.nsIn K mainGlobals "law" = some (some (.ref f33))) (l33 : K.lookup f33 = some ⟨oc33, od33, .func (PySem.W.fnOf "law" "law" (defArgs s_law) (defBody s_law) (defScope s_law) .none kV33 dc33 pm33 an33 cd33 ct33), sl33⟩) (c33 : PySem.W.codeIn K cd33 "law" = true) (k33 : PySem.W.keepIn K (.ref f33) = true)
    {t0 : Tok} (g0 : PySem.W.nsIn K mainGlobals "MOST_POINTS" = some (some (.int 7 t0)))
    {t1 : Tok} (g1 : PySem.W.nsIn K mainGlobals "MOST_TIES" = some (some (.int 9 t1)))
    (z0 : PySem.W.nsIn K mainGlobals "all" = some none)
    (z1 : PySem.W.nsIn K mainGlobals "bool" = some none)
    (z2 : PySem.W.nsIn K mainGlobals "enumerate" = some none)
    (z3 : PySem.W.nsIn K mainGlobals "int" = some none)
    (z4 : PySem.W.nsIn K mainGlobals "isinstance" = some none)
    (z5 : PySem.W.nsIn K mainGlobals "len" = some none)
    (z6 : PySem.W.nsIn K mainGlobals "list" = some none)
    (z7 : PySem.W.nsIn K mainGlobals "max" = some none)
    (z8 : PySem.W.nsIn K mainGlobals "min" = some none)
    (z9 : PySem.W.nsIn K mainGlobals "range" = some none)
    (z10 : PySem.W.nsIn K mainGlobals "repr" = some none)
    (z11 : PySem.W.nsIn K mainGlobals "sorted" = some none)
    (z12 : PySem.W.nsIn K mainGlobals "str" = some none)
    (z13 : PySem.W.nsIn K mainGlobals "sum" = some none)
    (z14 : PySem.W.nsIn K mainGlobals "tuple" = some none)
    {xC0 xC1 xC2 xI xcda xcc xdT : Addr} {xTc xTy : Value} {xTd : Option Addr} {xTa : Array Value} {xTn : Nat} {xTs : Array (Option Value)} {xoc xkV xdoc xpm xct xccl xcl : Value} {xod xan xcdd xcld : Option Addr} {xosl xccs xcsl : Array (Option Value)} {xcvs : Array Value} {xfile : Str} {xtf : Tok} {xcd : ClassData}
    (xe0 : PySem.W.nsIn K mainGlobals "DebtError" = some (some (.ref xC0)))
    (xe1 : PySem.W.nsIn K mainGlobals "InvalidWeb" = some (some (.ref xC1)))
    (xe2 : PySem.W.nsIn K mainGlobals "InvalidList" = some (some (.ref xC2)))
    (xi : PySem.W.findIn K (.ref xC0) "__init__" = some (some (.ref xI)))
    (xl : K.lookup xI = some ⟨xoc, xod, .func (PySem.W.ksFn "__init__" "DebtError.__init__" (iniArgs IQ1 IQ2 IDF) (iniBody IPO) iniScope (.ref xdT) xkV xdoc xpm xan (.ref xcda) xct xcc), xosl⟩)
    (xlT : K.lookup xdT = some ⟨xTc, xTd, .seq xTa xTn, xTs⟩) (xTe : Data.seq xTa xTn = .seq #[xTy] xTn)
    (xc : PySem.W.codeIn K (.ref xcda) "DebtError.__init__" = true)
    (xcl2 : K.lookup xcda = some ⟨xccl, xcdd, .fields xcvs, xccs⟩)
    (xv2 : xcvs[2]? = some (.str xfile xtf)) (xfi : ((P.main.file : Str) == xfile) = true)
    (xcell : K.lookup xcc = some ⟨xcl, xcld, .cell (some (.ref xC0)), xcsl⟩)
    (xcd2 : PySem.W.clsIn K xC0 = some xcd)
    (xsu : PySem.W.nsIn K mainGlobals "super" = some none) (xan2 : PySem.W.nsIn K PySem.cStatics "thirdparty.any" = some none)
    (xtop : (P.main.scope.names.lookup ("super" : Str)).isSome = false)
    (xall : exAllB K [("DebtError", xC0, ["DebtError"]), ("InvalidWeb", xC1, ["InvalidWeb", "DebtError"]), ("InvalidList", xC2, ["InvalidList", "DebtError"])] xC0 xI = true)
    : ∃ fd : FuncData, (∀ (s : Shared) (u : Value), BindsTo s fd ⟨[u], []⟩ [("script", u)]) ∧ ∀ base : Heap, K.In base → base.Ns mainGlobals mg → FnG P w K mg base 14 fa fd ["script"] F_law :=
  have T : TT P K mg := {
    d__law_all := Df.mk X G (fun _ _ _ _ _ _ us hl => match us, hl with | [_], _ => rfl) a0 l0 c0 k0
    d_reached_from := Df.mk X G (fun _ _ _ _ _ _ us hl => match us, hl with | [_, _], _ => rfl) a1 l1 c1 k1
    d_hang_together := Df.mk X G (fun _ _ _ _ _ _ us hl => match us, hl with | [_, _], _ => rfl) a2 l2 c2 k2
    d_is_whole := Df.mk X G (fun _ _ _ _ _ _ us hl => match us, hl with | [_], _ => rfl) a3 l3 c3 k3
    d_is_tie := Df.mk X G (fun _ _ _ _ _ _ us hl => match us, hl with | [_, _], _ => rfl) a4 l4 c4 k4
    d_is_web_by := Df.mk X G (fun _ _ _ _ _ _ us hl => match us, hl with | [_], _ => rfl) a5 l5 c5 k5
    d_check_web := Df.mk X G (fun _ _ _ _ _ _ us hl => match us, hl with | [_], _ => rfl) a6 l6 c6 k6
    d_is_order_by := Df.mk X G (fun _ _ _ _ _ _ us hl => match us, hl with | [_, _], _ => rfl) a7 l7 c7 k7
    d_many_in := Df.mk X G (fun _ _ _ _ _ _ us hl => match us, hl with | [_], _ => rfl) a8 l8 c8 k8
    d_ties_in := Df.mk X G (fun _ _ _ _ _ _ us hl => match us, hl with | [_], _ => rfl) a9 l9 c9 k9
    d_web_of := Df.mk X G (fun _ _ _ _ _ _ us hl => match us, hl with | [_, _], _ => rfl) a10 l10 c10 k10
    d_renamed_by := Df.mk X G (fun _ _ _ _ _ _ us hl => match us, hl with | [_, _], _ => rfl) a11 l11 c11 k11
    d_renamed_web := Df.mk X G (fun _ _ _ _ _ _ us hl => match us, hl with | [_, _], _ => rfl) a12 l12 c12 k12
    d_orders_of := Df.mk X G (fun _ _ _ _ _ _ us hl => match us, hl with | [_], _ => rfl) a13 l13 c13 k13
    d_renaming := Df.mk X G (fun _ _ _ _ _ _ us hl => match us, hl with | [_, _], _ => rfl) a14 l14 c14 k14
    d__law_caught := Df.mk X G (fun _ _ _ _ _ _ us hl => match us, hl with | [_, _], _ => rfl) a15 l15 c15 k15
    d__law_exact := Df.mk X G (fun _ _ _ _ _ _ us hl => match us, hl with | [_, _], _ => rfl) a16 l16 c16 k16
    d__law_cell := Df.mk X G (fun _ _ _ _ _ _ us hl => match us, hl with | [_, _], _ => rfl) a17 l17 c17 k17
    d__law_generator := Df.mk X G (fun _ _ _ _ _ _ us hl => match us, hl with | [_, _], _ => rfl) a18 l18 c18 k18
    d__law_hash := Df.mk X G (fun _ _ _ _ _ _ us hl => match us, hl with | [_, _], _ => rfl) a19 l19 c19 k19
    d__law_random := Df.mk X G (fun _ _ _ _ _ _ us hl => match us, hl with | [_, _], _ => rfl) a20 l20 c20 k20
    d__law_pick := Df.mk X G (fun _ _ _ _ _ _ us hl => match us, hl with | [_, _], _ => rfl) a21 l21 c21 k21
    d__law_bad_web := Df.mk X G (fun _ _ _ _ _ _ us hl => match us, hl with | [_, _], _ => rfl) a22 l22 c22 k22
    d__law_hang := Df.mk X G (fun _ _ _ _ _ _ us hl => match us, hl with | [_, _], _ => rfl) a23 l23 c23 k23
    d__law_is_whole := Df.mk X G (fun _ _ _ _ _ _ us hl => match us, hl with | [_], _ => rfl) a24 l24 c24 k24
    d__law_is_web := Df.mk X G (fun _ _ _ _ _ _ us hl => match us, hl with | [_], _ => rfl) a25 l25 c25 k25
    d__law_no_web := Df.mk X G (fun _ _ _ _ _ _ us hl => match us, hl with | [_, _], _ => rfl) a26 l26 c26 k26
    d__law_order := Df.mk X G (fun _ _ _ _ _ _ us hl => match us, hl with | [_, _], _ => rfl) a27 l27 c27 k27
    d__law_lists := Df.mk X G (fun _ _ _ _ _ _ us hl => match us, hl with | [_], _ => rfl) a28 l28 c28 k28
    d__law_own := Df.mk X G (fun _ _ _ _ _ _ us hl => match us, hl with | [_, _, _], _ => rfl) a29 l29 c29 k29
    d__law_made := Df.mk X G (fun _ _ _ _ _ _ us hl => match us, hl with | [_, _], _ => rfl) a30 l30 c30 k30
    d__law_renamed := Df.mk X G (fun _ _ _ _ _ _ us hl => match us, hl with | [_, _], _ => rfl) a31 l31 c31 k31
    d__law_web := Df.mk X G (fun _ _ _ _ _ _ us hl => match us, hl with | [_, _, _], _ => rfl) a32 l32 c32 k32
    d_law := Df.mk X G (fun _ _ _ _ _ _ us hl => match us, hl with | [_], _ => rfl) a33 l33 c33 k33
    z_all := PySem.W.mg_none_of X G z0
    z_bool := PySem.W.mg_none_of X G z1
    z_enumerate := PySem.W.mg_none_of X G z2
    z_int := PySem.W.mg_none_of X G z3
    z_isinstance := PySem.W.mg_none_of X G z4
    z_len := PySem.W.mg_none_of X G z5
    z_list := PySem.W.mg_none_of X G z6
    z_max := PySem.W.mg_none_of X G z7
    z_min := PySem.W.mg_none_of X G z8
    z_range := PySem.W.mg_none_of X G z9
    z_repr := PySem.W.mg_none_of X G z10
    z_sorted := PySem.W.mg_none_of X G z11
    z_str := PySem.W.mg_none_of X G z12
    z_sum := PySem.W.mg_none_of X G z13
    z_tuple := PySem.W.mg_none_of X G z14
    x_exc := ⟨[("DebtError", xC0, ["DebtError"]), ("InvalidWeb", xC1, ["InvalidWeb", "DebtError"]), ("InvalidList", xC2, ["InvalidList", "DebtError"])], xC0, xI, _, rfl, (List.forall_mem_cons.mpr ⟨PySem.W.mg_of X G xe0, (List.forall_mem_cons.mpr ⟨PySem.W.mg_of X G xe1, (List.forall_mem_cons.mpr ⟨PySem.W.mg_of X G xe2, List.forall_mem_nil _⟩)⟩)⟩), PySem.W.mg_of X G xe0, xall, ⟨⟨xoc, xod, xan, xosl, .ref xdT, xkV, xdoc, xpm, xct, xcda, xcc, IQ1, IQ2, IDF, IPO, by decide, rfl, xl, xc, ⟨xccl, xcdd, xcvs, xccs, xfile, xtf, xcl2, xv2, xfi⟩, ⟨xcl, xcld, xcsl, xcell⟩⟩, ⟨xcd, xcd2⟩, xsu, xan2, xtop⟩, ini_binds xlT xTe⟩
    c_MOST_POINTS := ⟨_, PySem.W.mg_of X G g0⟩
    c_MOST_TIES := ⟨_, PySem.W.mg_of X G g1⟩
  }
  law_fd T.d_law hmg (fun _ _ _ _ _ _ _ => rfl) fun base _ _ => g_law T
end Lk07
namespace DL
open PySem L2
/-! ### loops of the mirror, plainly -/
theorem forL_run {f : Tgt} {b : M Fl} (I : Nat → Sg → Prop) : ∀ {ds : List D} {k : Nat} {s : Sg}, I k s → (∀ i d s, ds[i]? = some d → I (k + i) s → ∃ s1 s2, f d s = some s1 ∧ (b s1 = some (.ok .nx, s2) ∨ b s1 = some (.ok .ct, s2)) ∧ I (k + i + 1) s2) →
    ∃ s', forL f b ds s = some (.ok .nx, s') ∧ I (k + ds.length) s'
  | [], k, s, h0, _ => ⟨s, rfl, h0⟩
  | d :: ds, k, s, h0, st => by
    obtain ⟨s1, s2, h1, h2, h3⟩ := st 0 d s rfl h0
    obtain ⟨s', h4, h5⟩ := forL_run I (ds := ds) (k := k + 1) (s := s2) (by simpa using h3) fun i d s hd hi => by
      have z : k + (i + 1) = k + 1 + i := by omega
      have := st (i + 1) d s (by simpa using hd) (by rw [z]; exact hi)
      rw [z] at this
      exact this
    refine ⟨s', ?_, by rw [List.length_cons]; have z : k + (ds.length + 1) = k + 1 + ds.length := by omega
                       rw [z]; exact h5⟩
    simp only [forL, h1]
    rcases h2 with h2 | h2
    · simp only [h2]; exact h4
    · simp only [h2]; exact h4
theorem compL_run {own : List Nat} {f : Tgt} {t : M Bool} {e : M It} (I : Nat → List D → Sg → Prop) : ∀ {ds : List D} {k : Nat} {acc : List D} {s : Sg}, I k acc s →
    (∀ i d acc s, ds[i]? = some d → I (k + i) acc s → ∃ s1 b s2, f d s = some s1 ∧ t s1 = some (.ok b, s2) ∧ ((b = false ∧ I (k + i + 1) acc ⟨wipeE s2.ρ own, s2.μ⟩) ∨ (b = true ∧ ∃ y s3, e s2 = some (.ok (.val y), s3) ∧ I (k + i + 1) (acc ++ [y]) ⟨wipeE s3.ρ own, s3.μ⟩))) →
    ∃ acc' s', compL own f t e ds acc s = some (acc', s') ∧ I (k + ds.length) acc' s'
  | [], k, acc, s, h0, _ => ⟨acc, s, rfl, h0⟩
  | d :: ds, k, acc, s, h0, st => by
    obtain ⟨s1, b, s2, h1, h2, h3⟩ := st 0 d acc s rfl h0
    have next : ∀ acc1 sn, I (k + 1) acc1 sn → ∃ acc' s', compL own f t e ds acc1 sn = some (acc', s') ∧ I (k + (d :: ds).length) acc' s' := fun acc1 sn hi => by
      obtain ⟨a', s', h4, h5⟩ := compL_run I (ds := ds) (k := k + 1) (acc := acc1) (s := sn) hi fun i d acc s hd hi => by
        have z : k + (i + 1) = k + 1 + i := by omega
        have := st (i + 1) d acc s (by simpa using hd) (by rw [z]; exact hi)
        rw [z] at this
        exact this
      refine ⟨a', s', h4, ?_⟩
      rw [List.length_cons]
      have z : k + (ds.length + 1) = k + 1 + ds.length := by omega
      rw [z]; exact h5
    rcases h3 with ⟨rfl, h3⟩ | ⟨rfl, y, s3, h4, h5⟩
    · obtain ⟨a', s', h6, h7⟩ := next _ _ h3
      exact ⟨a', s', by simp only [compL, h1, h2]; exact h6, h7⟩
    · obtain ⟨a', s', h6, h7⟩ := next _ _ h5
      exact ⟨a', s', by simp only [compL, h1, h2, h4]; exact h6, h7⟩
/-- a comprehension that leaves all as it was: p d = none: left out -/
theorem compL_pure {own : List Nat} {f : Tgt} {t : M Bool} {e : M It} {s : Sg} (p : D → Option D) : ∀ {ds : List D} {acc : List D},
    (∀ d ∈ ds, ∃ s1 b s2, f d s = some s1 ∧ t s1 = some (.ok b, s2) ∧ ((b = false ∧ p d = none ∧ (⟨wipeE s2.ρ own, s2.μ⟩ : Sg) = s) ∨ (b = true ∧ ∃ y s3, p d = some y ∧ e s2 = some (.ok (.val y), s3) ∧ (⟨wipeE s3.ρ own, s3.μ⟩ : Sg) = s))) →
    compL own f t e ds acc s = some (acc ++ ds.filterMap p, s)
  | [], acc, _ => by simp [compL]
  | d :: ds, acc, st => by
    obtain ⟨s1, b, s2, h1, h2, h3⟩ := st d (by simp)
    have next := fun acc => compL_pure (own := own) (f := f) (t := t) (e := e) p (ds := ds) (acc := acc) fun d hd => st d (by simp [hd])
    rcases h3 with ⟨rfl, h3, h4⟩ | ⟨rfl, y, s3, h3, h4, h5⟩
    · simp only [compL, h1, h2, h4, next, List.filterMap_cons, h3]
    · simp only [compL, h1, h2, h4, h5, next, List.filterMap_cons, h3, List.append_assoc, List.singleton_append]
/-- .. over a list that stays as it is while it is walked -/
theorem compD_pure {own : List Nat} {f : Tgt} {t : M Bool} {e : M It} {s : Sg} {it : Cells → Nat → Option D} {ds : List D} (p : D → Option D) (hit : ∀ i, it s.μ i = ds[i]?)
    (st : ∀ d ∈ ds, ∃ s1 b s2, f d s = some s1 ∧ t s1 = some (.ok b, s2) ∧ ((b = false ∧ p d = none ∧ (⟨wipeE s2.ρ own, s2.μ⟩ : Sg) = s) ∨ (b = true ∧ ∃ y s3, p d = some y ∧ e s2 = some (.ok (.val y), s3) ∧ (⟨wipeE s3.ρ own, s3.μ⟩ : Sg) = s))) :
    ∀ {n i : Nat} {acc : List D}, i ≤ ds.length → ds.length < i + n → compD own f t e it n i acc s = some (acc ++ (ds.drop i).filterMap p, s)
  | 0, i, acc, h0, h => by omega
  | n + 1, i, acc, h0, h => by
    by_cases hi : i < ds.length
    · obtain ⟨s1, b, s2, h1, h2, h3⟩ := st ds[i] (List.getElem_mem hi)
      have next := fun acc => compD_pure (own := own) (f := f) (t := t) (e := e) p hit st (n := n) (i := i + 1) (acc := acc) (by omega) (by omega)
      have hd : ds.drop i = ds[i] :: ds.drop (i + 1) := List.drop_eq_getElem_cons hi
      rw [hd]
      have hg : it s.μ i = some ds[i] := by rw [hit, List.getElem?_eq_getElem hi]
      rcases h3 with ⟨rfl, h3, h4⟩ | ⟨rfl, y, s3, h3, h4, h5⟩
      · simp only [compD, hg, h1, h2, h4, next, List.filterMap_cons, h3]
      · simp only [compD, hg, h1, h2, h4, h5, next, List.filterMap_cons, h3, List.append_assoc, List.singleton_append]
    · have hg : it s.μ i = none := by rw [hit, List.getElem?_eq_none (by omega)]
      rw [List.drop_eq_nil_of_le (by omega)]
      simp only [compD, hg, List.filterMap_nil, List.append_nil]
/-- while, by a measure -/
theorem whl_run {c : M Bool} {b : M Fl} (I : Nat → Sg → Prop) : ∀ {n m : Nat} {s : Sg}, m < n → I m s →
    (∀ m s, I m s → ∃ t s1, c s = some (.ok t, s1) ∧ ((t = false) ∨ (t = true ∧ ∃ s2 m', (b s1 = some (.ok .nx, s2) ∨ b s1 = some (.ok .ct, s2)) ∧ m' < m ∧ I m' s2))) →
    ∃ m' s0 s', I m' s0 ∧ c s0 = some (.ok false, s') ∧ whl c b n s = some (.ok .nx, s')
  | 0, m, s, h, _, _ => by omega
  | n + 1, m, s, h, hi, st => by
    obtain ⟨t, s1, h1, h2⟩ := st m s hi
    rcases h2 with rfl | ⟨rfl, s2, m', h2, h3, h4⟩
    · exact ⟨m, s, s1, hi, h1, by simp [whl, bnd, h1, DL.ret]⟩
    · obtain ⟨m2, s0, s', h5, h6, h7⟩ := whl_run I (n := n) (m := m') (s := s2) (by omega) h4 st
      refine ⟨m2, s0, s', h5, h6, ?_⟩
      rcases h2 with h2 | h2
      · simp [whl, bnd, h1, h2, h7]
      · simp [whl, bnd, h1, h2, h7]
theorem gS_free {i : Nat} {s : Sg} {d : D} (h : s.ρ[i]? = some (some d)) (hf : d.free = true) : gS i s = some (.ok (.val d), s) := by
  have e : s.ρ.set i (some d) = s.ρ := by
    apply List.ext_getElem?
    intro j
    by_cases hj : i = j
    · subst hj
      rw [List.getElem?_set_self (List.getElem?_eq_some_iff.mp h).1, h]
    · rw [List.getElem?_set_ne hj]
  simp only [gS, h, D.share_of_free d hf, e]
theorem frees_ints (ns : List Int) : D.frees (ns.map .int) = true := by
  rw [D.frees_iff]; intro d hd; obtain ⟨n, _, rfl⟩ := List.mem_map.mp hd; rfl
theorem shares_ints (ns : List Int) : D.shares (ns.map .int) = ns.map .int := D.shares_of_frees _ (frees_ints ns)
theorem eqE_nil (o o' : Bool) (xs : List D) : eqE (.lst o xs) (.lst o' []) = some (.bool xs.isEmpty) := by
  cases xs with
  | nil => simp [eqE, eqD, D.low, D.lows, D.py, D.pys, PyData.eqv, PyData.eqvAll]
  | cons x xs =>
    unfold eqE
    by_cases h : D.low 60 (.lst o (x :: xs)) = true
    · have h2 : D.low 60 (.lst o' []) = true := by simp [D.low, D.lows]
      simp [eqD, h, h2, D.py, D.pys, PyData.eqv, PyData.eqvAll]
    · simp [eqD, h, eqX, lenOf]
theorem eqE_ii (i j : Int) : eqE (.int i) (.int j) = some (.bool (i == j)) := by
  simp [eqE, eqD, D.low, D.py, PyData.eqv]
theorem neE_ii (i j : Int) : neE (.int i) (.int j) = some (.bool (!(i == j))) := by
  simp [neE, neD, D.low, D.py, PyData.eqv]
theorem neE_of {d e z : D} (h : neD d e = some z) : neE d e = some z := by simp only [neE, h]
theorem eqE_of {d e z : D} (h : eqD d e = some z) : eqE d e = some z := by simp only [eqE, h]
theorem eqE_ss (x y : Str) : eqE (.str x) (.str y) = some (.bool (decide (x = y))) := by
  unfold eqE
  cases h : eqD (.str x) (.str y) with
  | none => rfl
  | some z =>
    unfold eqD at h; split at h
    · cases h; by_cases e : x = y <;> simp [D.py, PyData.eqv, e]
    · cases h
theorem neE_ss (x y : Str) : neE (.str x) (.str y) = some (.bool (!decide (x = y))) := by
  unfold neE
  cases h : neD (.str x) (.str y) with
  | none => rfl
  | some z =>
    unfold neD at h; split at h
    · cases h; by_cases e : x = y <;> simp [D.py, PyData.eqv, e]
    · cases h
/-! ### the steps, once they are given a state -/
section
variable {α β : Type} (s : Sg) (i : Nat) (d : D) (op : D → D → Option D) (lop : List D → Option D)
theorem ge_ii (i j : Int) : geD (.int i) (.int j) = some (.bool (decide (j ≤ i))) := rfl
theorem le_ii (i j : Int) : leD (.int i) (.int j) = some (.bool (decide (i ≤ j))) := rfl
theorem gt_ii (i j : Int) : gtD (.int i) (.int j) = some (.bool (decide (j < i))) := rfl
theorem lt_ii (i j : Int) : ltD (.int i) (.int j) = some (.bool (decide (i < j))) := rfl
theorem bnd_ap (m : M α) (k : α → M β) : bnd m k s = (match m s with
  | none => none
  | some (.ok a, s') => k a s'
  | some (.err c v, s') => some (.err c v, s')) := rfl
theorem ret_ap (a : α) : DL.ret a s = some (.ok a, s) := rfl
theorem kst_ap : kst d s = some (.ok (.val d), s) := rfl
theorem gP_ap : gP i s = (match s.ρ[i]? with
  | some (some _) => some (.ok (.pk i), s)
  | _ => none) := rfl
theorem gS_ap : gS i s = (match s.ρ[i]? with
  | some (some d) => some (.ok (.val d.share), ⟨s.ρ.set i (some d.share), s.μ⟩)
  | _ => none) := rfl
theorem gM_ap : gM i s = (match s.ρ[i]? with
  | some (some d) => some (.ok (.val d), ⟨s.ρ.set i none, s.μ⟩)
  | _ => none) := rfl
theorem gC_ap : gC i s = (match s.ρ[i]? with
  | some (some d) => if easy d then gP i s else gS i s
  | _ => none) := rfl
theorem tst_ap (m : M It) : tst m s = bnd m (fun i s => match i.at s.ρ with
  | some (.bool b) => some (.ok b, s)
  | _ => none) s := rfl
theorem binI_ap (m n : M It) : binI op m n s = bnd m (fun i => bnd n fun j s =>
  match i.ato s, j.ato s with
  | some d, some e => match op d e with
    | some z => some (.ok (.val z), s)
    | none => none
  | _, _ => none) s := rfl
theorem binC_ap (m n : M It) : binC op m n s = bnd m (fun i => bnd n fun j s =>
  match i.sate s, j.sate s with
  | some d, some e => match op d e with
    | some z => some (.ok (.val z), s)
    | none => none
  | _, _ => none) s := rfl
theorem ixM_ap (m n : M It) : ixM m n s = bnd m (fun i => bnd n fun j s =>
  match j.at s.ρ with
  | some (.int k) => match itemOf i s k with
    | some d => some (.ok (.val d), s)
    | none => none
  | _ => none) s := rfl
theorem args0_ap : args0 s = some (.ok [], s) := rfl
theorem argsC_ap (m : M It) (n : M (List It)) : argsC m n s = bnd m (fun i => bnd n fun l => DL.ret (i :: l)) s := rfl
theorem cliI_ap (m : M (List It)) : cliI lop m s = bnd m (fun l s => match atAll s l with
  | some ds => match lop ds with
    | some z => some (.ok (.val z), s)
    | none => none
  | none => none) s := rfl
theorem cliC_ap (m : M (List It)) : cliC lop m s = bnd m (fun l s => match sateAll s l with
  | some ds => match lop ds with
    | some z => some (.ok (.val z), s)
    | none => none
  | none => none) s := rfl
theorem dspL_ap (m : M (List It)) : dspL m s = bnd m (fun l s => match vals? l with
  | some ds => if ds.length ≤ sizeLine then some (.ok (.val (.lst true ds)), s) else none
  | none => none) s := rfl
theorem dspT_ap (m : M (List It)) : dspT m s = bnd m (fun l s => match vals? l with
  | some ds => if ds.length ≤ sizeLine then some (.ok (.val (.tup ds)), s) else none
  | none => none) s := rfl
theorem call_ap (F : Fn) (m : M (List It)) : DL.call F m s = bnd m (fun l s => match vals? l with
  | some ds => match F ds s.μ with
    | some (.ok d, μ) => some (.ok (.val d), ⟨s.ρ, μ⟩)
    | some (.err c v, μ) => some (.err c v, ⟨s.ρ, μ⟩)
    | none => none
  | none => none) s := rfl
theorem callK_ap (F : Fn) (pm : List Nat) (m n : M (List It)) : callK F pm m n s = bnd (appA m n) (fun l s => match vals? l with
  | some ds => match F (reord pm ds) s.μ with
    | some (.ok d, μ) => some (.ok (.val d), ⟨s.ρ, μ⟩)
    | some (.err c v, μ) => some (.err c v, ⟨s.ρ, μ⟩)
    | none => none
  | none => none) s := rfl
theorem appA_ap (m n : M (List It)) : appA m n s = bnd m (fun l => bnd n fun k => DL.ret (l ++ k)) s := rfl
theorem notB_ap (m : M Bool) : notB m s = bnd m (fun b => DL.ret (!b)) s := rfl
theorem andB_ap (m n : M Bool) : andB m n s = bnd m (fun b => if b then n else DL.ret false) s := rfl
theorem orB_ap (m n : M Bool) : orB m n s = bnd m (fun b => if b then DL.ret true else n) s := rfl
theorem notV_ap (m : M It) : notV m s = bnd (tst m) (fun b => DL.ret (.val (.bool (!b)))) s := rfl
theorem andV_ap (m n : M It) : andV m n s = bnd (tst m) (fun b => if b then n else DL.ret (.val (.bool false))) s := rfl
theorem orV_ap (m n : M It) : orV m n s = bnd (tst m) (fun b => if b then DL.ret (.val (.bool true)) else n) s := rfl
theorem ifV_ap (t : M Bool) (m n : M It) : ifV t m n s = bnd t (fun b => if b then m else n) s := rfl
theorem ifS_ap (t : M Bool) (m n : M Fl) : ifS t m n s = bnd t (fun b => if b then m else n) s := rfl
theorem unM_ap (f : D → Option D) (m : M It) : unM f m s = bnd m (fun i s => match i.at s.ρ with
  | some (.int k) => match f (.int k) with
    | some z => some (.ok (.val z), s)
    | none => none
  | _ => none) s := rfl
theorem sq_ap (m n : M Fl) : sq m n s = (match m s with
  | some (.ok .nx, s') => n s'
  | o => o) := rfl
theorem skp_ap : skp s = some (.ok .nx, s) := rfl
theorem rtn_ap (m : M It) : rtn m s = bnd m (fun it s => match it with
  | .val d => some (.ok (.rt d), s)
  | .pk _ => none) s := rfl
theorem drp_ap (m : M It) : drp m s = bnd m (fun _ => DL.ret .nx) s := rfl
theorem asg_ap (m : M It) (f : Tgt) : asg m f s = bnd m (fun it s => match it with
  | .val d => match f d s with
    | some s' => some (.ok .nx, s')
    | none => none
  | .pk _ => none) s := rfl
theorem toN_ap : toN i d s = (if i < s.ρ.length then some ⟨s.ρ.set i (some d), s.μ⟩ else none) := rfl
theorem thawM_ap (m : M It) : thawM m s = bnd m (fun it s => match it with
  | .val (.lst true ds) => some (.ok (.val (.cell s.μ.length)), ⟨s.ρ, s.μ ++ [D.shares ds]⟩)
  | .val (.cell k) => some (.ok (.val (.cell k)), s)
  | _ => none) s := rfl
theorem forS_ap (m : M Src) (f : Tgt) (b : M Fl) : forS m f b s = bnd m (fun src => match src with
  | .fix ds => forL f b ds
  | .dyn n it => forD f b it n 0
  | .str n it fin => forG f b it fin n 0) s := rfl
theorem itS_ap (m : M It) : itS m s = bnd m (fun it s => match it.sat s.ρ with
  | some (.lst _ ds) => some (.ok (.fix ds), s)
  | some (.frz ds) => some (.ok (.fix ds), s)
  | some (.tup ds) => some (.ok (.fix ds), s)
  | some (.cell k) => match s.μ[k]? with
    | some ds => some (.ok (.dyn (ds.length + 1) fun μ i => (μ[k]?).bind (·[i]?)), s)
    | none => none
  | _ => none) s := rfl
theorem comp_ap (own : List Nat) (m : M Src) (f : Tgt) (t : M Bool) (e : M It) : comp own m f t e s = bnd m (fun src s =>
  match src with
  | .fix items => if items.length ≤ sizeLine then
      match compL own f t e items [] ⟨wipeE s.ρ own, s.μ⟩ with
      | some (acc, s') => some (.ok (.val (.lst true acc)), s')
      | none => none
    else none
  | .dyn n it => if n ≤ sizeLine then
      match compD own f t e it n 0 [] ⟨wipeE s.ρ own, s.μ⟩ with
      | some (acc, s') => some (.ok (.val (.lst true acc)), s')
      | none => none
    else none
  | .str n it fin => if n ≤ sizeLine then
      match compG own f t e it fin n 0 [] ⟨wipeE s.ρ own, s.μ⟩ with
      | some (acc, s') => some (.ok (.val (.lst true acc)), s')
      | none => none
    else none) s := rfl
end
end DL
namespace DL
open PySem L2
/-! ### more steps, once they are given a state -/
section
variable (s : Sg)
theorem par2_ap (i j : Nat) (m : M (List It)) : par2 i j m s = bnd m (fun l s => match vals? l with
  | some [d, e] => if i < s.ρ.length ∧ j < s.ρ.length then some (.ok .nx, ⟨(s.ρ.set i (some d)).set j (some e), s.μ⟩) else none
  | _ => none) s := rfl
theorem par3_ap (i j k : Nat) (m : M (List It)) : par3 i j k m s = bnd m (fun l s => match vals? l with
  | some [d, e, f] => if i < s.ρ.length ∧ j < s.ρ.length ∧ k < s.ρ.length then some (.ok .nx, ⟨((s.ρ.set i (some d)).set j (some e)).set k (some f), s.μ⟩) else none
  | _ => none) s := rfl
theorem argsS_ap (m : M It) (n : M (List It)) : argsS m n s = bnd m (fun i s1 =>
  match spill i s1 with
  | some ds => bnd n (fun l => ret (ds.map .val ++ l)) s1
  | none => none) s := rfl
theorem slM_ap (m : M It) (lo hi : MO) : slM m lo hi s = bnd m (fun i => bnd lo fun a => bnd hi fun b s =>
  match i.sate s with
  | some d => match sliceD a b d with
    | some z => some (.ok (.val z), s)
    | none => none
  | none => none) s := rfl
theorem o0_ap : o0 s = some (.ok none, s) := rfl
theorem o1_ap (m : M It) : o1 m s = bnd m (fun i s => match opPart i s with
  | some k => some (.ok (some k), s)
  | none => none) s := rfl
theorem tst1_ap : tst1 s = some (.ok true, s) := rfl
theorem fin1_ap (p : D → Option D) (k : It) : fin1 p k s = (match k.ato s with
  | some f => match p f with
    | some z => some (.ok (.val z), s)
    | none => none
  | none => none) := rfl
theorem chn_ap (o p : D → D → Option D) (m n q : M It) : chn o p m n q s = bnd m (fun i => bnd n fun j s =>
  match i.ato s, j.at s.ρ with
  | some d, some e => match o d e, e.free with
    | some (.bool true), true => bnd q (fin1 (p e)) s
    | some (.bool false), _ => some (.ok (.val (.bool false)), s)
    | _, _ => none
  | _, _ => none) s := rfl
theorem lnk_ap (p q : D → D → Option D) (e : D) (m n : M It) : lnk p q e m n s = bnd m (fun j s =>
  match j.at s.ρ with
  | some f => match p e f, f.free with
    | some (.bool true), true => bnd n (fin1 (q f)) s
    | some (.bool false), _ => some (.ok (.val (.bool false)), s)
    | _, _ => none
  | _ => none) s := rfl
theorem chn3_ap (o p q : D → D → Option D) (m n k l : M It) : chn3 o p q m n k l s = bnd m (fun i => bnd n fun j s =>
  match i.ato s, j.at s.ρ with
  | some d, some e => match o d e, e.free with
    | some (.bool true), true => lnk p q e k l s
    | some (.bool false), _ => some (.ok (.val (.bool false)), s)
    | _, _ => none
  | _, _ => none) s := rfl
theorem revM_ap (m : M It) : revM m s = bnd m (fun i s => match i.sate s with
  | some (.lst _ ds) => some (.ok (.val (.lst true ds.reverse)), s)
  | some (.frz ds) => some (.ok (.val (.lst true ds.reverse)), s)
  | _ => none) s := rfl
theorem itZ_ap (m : M (List It)) : itZ m s = bnd m (fun l s => match satAll s.ρ l with
  | some [d, e] => match zipS d e s.μ with
    | some src => some (.ok src, s)
    | none => none
  | _ => none) s := rfl
end
section
variable {s s1 s' : Sg}
theorem forS_fix {m : M Src} {f : Tgt} {b : M Fl} {ds : List D} (h : m s = some (.ok (.fix ds), s')) : forS m f b s = forL f b ds s' := by
  rw [forS_ap, bnd_ap, h]
theorem argsC_of {m : M It} {n : M (List It)} {i : It} (h : m s = some (.ok i, s1)) : argsC m n s = bnd n (fun l => ret (i :: l)) s1 := by
  rw [argsC_ap, bnd_ap, h]
theorem it1_run {ρ : Env} {μ : Cells} {i : Nat} {m : Int} (hi : ρ[i]? = some (some (.int m))) (h1 : 0 ≤ m ∧ m ≤ 16777216) :
    it1 (argsC (gP i) args0) ⟨ρ, μ⟩ = some (.ok (.fix (rng 0 m.toNat)), ⟨ρ, μ⟩) := by
  have s2 : small62 m = true := small62_iff.mpr ⟨by omega, by omega⟩
  simp only [it1, bnd_ap, argsC_ap, gP_ap, kst_ap, ret_ap, args0_ap, hi]
  simp [atAll, It.ato, It.at, hi, s2, D.free]
theorem lr1_run {ρ : Env} {μ : Cells} {i : Nat} {m : Int} (hi : ρ[i]? = some (some (.int m))) (h1 : 0 ≤ m ∧ m ≤ 16777216) :
    lr1 (gP i) ⟨ρ, μ⟩ = some (.ok (.val (.lst true (rng 0 m.toNat))), ⟨ρ, μ⟩) := by
  have s2 : small62 m = true := small62_iff.mpr ⟨by omega, by omega⟩
  have s3 : m.toNat ≤ 16777216 := by omega
  simp only [lr1, bnd_ap, gP_ap, hi]
  simp [It.at, hi, s2, s3, D.free]
theorem boolsD_mapG (g : D → Bool) (ds : List D) : boolsD (ds.map fun d => .bool (g d)) = some (ds.map g) := by
  induction ds with
  | nil => rfl
  | cons d ds ih => simp [boolsD, ih]
theorem allD_map (g : D → Bool) (ds : List D) (o : Bool) : allD [.lst o (ds.map fun d => .bool (g d))] = some (.bool (ds.all g)) := by
  simp only [allD, boolsD_mapG, Option.map_some, List.all_map, Function.comp_def, id]
theorem sort_ints (o : Bool) (ns : List Int) : sorD [.lst o (ns.map .int)] = some (.lst true ((sortI ns).map .int)) := by
  simp only [sorD, intsD_map]
theorem sum_ints (o : Bool) (ns : List Int) : sumD [.lst o (ns.map .int)] = some (.int ns.sum) := by
  simp only [sumD, intsOf, seqOf, Option.bind_some, intsD_map, Option.map_some]
/-- a comprehension over a fixed list that leaves all as it was -/
theorem comp_fil {own : List Nat} {src : M Src} {f : Tgt} {t : M Bool} {e : M It} {ds : List D} (p : D → Option D) (hi : src s = some (.ok (.fix ds), s')) (hl : ds.length ≤ 16777216) (hw : (⟨wipeE s'.ρ own, s'.μ⟩ : Sg) = s')
    (h : ∀ d ∈ ds, ∃ s1 b s2, f d s' = some s1 ∧ t s1 = some (.ok b, s2) ∧ ((b = false ∧ p d = none ∧ (⟨wipeE s2.ρ own, s2.μ⟩ : Sg) = s') ∨ (b = true ∧ ∃ y s3, p d = some y ∧ e s2 = some (.ok (.val y), s3) ∧ (⟨wipeE s3.ρ own, s3.μ⟩ : Sg) = s'))) :
    comp own src f t e s = some (.ok (.val (.lst true (ds.filterMap p))), s') := by
  have hl' : ds.length ≤ sizeLine := by rw [sizeLine_eq]; exact hl
  rw [comp_ap, bnd_ap, hi]
  simp only [hw, if_pos hl', compL_pure p h, List.nil_append]
theorem comp_map {own : List Nat} {src : M Src} {f : Tgt} {e : M It} {ds : List D} (g : D → D) (hi : src s = some (.ok (.fix ds), s')) (hl : ds.length ≤ 16777216) (hw : (⟨wipeE s'.ρ own, s'.μ⟩ : Sg) = s')
    (h : ∀ d ∈ ds, ∃ s1 s3, f d s' = some s1 ∧ e s1 = some (.ok (.val (g d)), s3) ∧ (⟨wipeE s3.ρ own, s3.μ⟩ : Sg) = s') :
    comp own src f tst1 e s = some (.ok (.val (.lst true (ds.map g))), s') := by
  rw [comp_fil (fun d => some (g d)) hi hl hw]
  · rw [List.filterMap_eq_map']
  · intro d hd
    obtain ⟨s1, s3, h1, h2, h3⟩ := h d hd
    exact ⟨s1, true, s1, h1, rfl, .inr ⟨rfl, _, s3, rfl, h2, h3⟩⟩
/-- all([.. for ..]) -/
theorem all_map {own : List Nat} {src : M Src} {f : Tgt} {e : M It} {ds : List D} (g : D → Bool) (hi : src s = some (.ok (.fix ds), s')) (hl : ds.length ≤ 16777216) (hw : (⟨wipeE s'.ρ own, s'.μ⟩ : Sg) = s')
    (h : ∀ d ∈ ds, ∃ s1 s3, f d s' = some s1 ∧ e s1 = some (.ok (.val (.bool (g d))), s3) ∧ (⟨wipeE s3.ρ own, s3.μ⟩ : Sg) = s') :
    cliI allD (argsC (comp own src f tst1 e) args0) s = some (.ok (.val (.bool (ds.all g))), s') := by
  have hc := comp_map (e := e) (own := own) (fun d => .bool (g d)) hi hl hw h
  rw [cliI_ap, bnd_ap, argsC_ap, bnd_ap, hc]
  simp only [args0_ap, bnd_ap, ret_ap, atAll, It.ato, It.at, allD_map]
/-- .. over a list that other names may change -/
theorem comp_dyn {own : List Nat} {src : M Src} {f : Tgt} {t : M Bool} {e : M It} {ds : List D} {n : Nat} {it : Cells → Nat → Option D} (p : D → Option D) (hi : src s = some (.ok (.dyn n it), s')) (hn : n ≤ 16777216) (hl : ds.length < n) (hit : ∀ i, it s'.μ i = ds[i]?) (hw : (⟨wipeE s'.ρ own, s'.μ⟩ : Sg) = s')
    (h : ∀ d ∈ ds, ∃ s1 b s2, f d s' = some s1 ∧ t s1 = some (.ok b, s2) ∧ ((b = false ∧ p d = none ∧ (⟨wipeE s2.ρ own, s2.μ⟩ : Sg) = s') ∨ (b = true ∧ ∃ y s3, p d = some y ∧ e s2 = some (.ok (.val y), s3) ∧ (⟨wipeE s3.ρ own, s3.μ⟩ : Sg) = s'))) :
    comp own src f t e s = some (.ok (.val (.lst true (ds.filterMap p))), s') := by
  have hn' : n ≤ sizeLine := by rw [sizeLine_eq]; exact hn
  rw [comp_ap, bnd_ap, hi]
  simp only [hw, if_pos hn', compD_pure p hit h (n := n) (i := 0) (acc := []) (by omega) (by omega), List.nil_append, List.drop_zero]
theorem all_dyn {own : List Nat} {src : M Src} {f : Tgt} {e : M It} {ds : List D} {n : Nat} {it : Cells → Nat → Option D} (g : D → Bool) (hi : src s = some (.ok (.dyn n it), s')) (hn : n ≤ 16777216) (hl : ds.length < n) (hit : ∀ i, it s'.μ i = ds[i]?) (hw : (⟨wipeE s'.ρ own, s'.μ⟩ : Sg) = s')
    (h : ∀ d ∈ ds, ∃ s1 s3, f d s' = some s1 ∧ e s1 = some (.ok (.val (.bool (g d))), s3) ∧ (⟨wipeE s3.ρ own, s3.μ⟩ : Sg) = s') :
    cliI allD (argsC (comp own src f tst1 e) args0) s = some (.ok (.val (.bool (ds.all g))), s') := by
  have hc := comp_dyn (own := own) (t := tst1) (e := e) (fun d => some (.bool (g d))) hi hn hl hit hw (fun d hd => by
    obtain ⟨s1, s3, h1, h2, h3⟩ := h d hd
    exact ⟨s1, true, s1, h1, rfl, .inr ⟨rfl, _, s3, rfl, h2, h3⟩⟩)
  rw [List.filterMap_eq_map'] at hc
  rw [cliI_ap, bnd_ap, argsC_ap, bnd_ap, hc]
  simp only [args0_ap, bnd_ap, ret_ap, atAll, It.ato, It.at, allD_map]
end
/-! ### what is plain -/
theorem rng_get {lo : Int} {n i : Nat} {d : D} (h : (rng lo n)[i]? = some d) : i < n ∧ d = .int (lo + i) := by
  unfold rng at h
  rw [List.getElem?_map] at h
  cases q : (List.range n)[i]? with
  | none => rw [q] at h; cases h
  | some j =>
    rw [q] at h
    obtain ⟨hi, e⟩ := List.getElem?_eq_some_iff.mp q
    simp at hi e
    subst e
    cases h
    exact ⟨hi, rfl⟩
theorem rng_ints (m : Nat) : rng 0 m = ((List.range m).map fun (k : Nat) => (k : Int)).map .int := by
  unfold rng; rw [List.map_map]; apply List.map_congr_left; intro k _; simp
theorem rng_len (lo : Int) (n : Nat) : (rng lo n).length = n := by simp [rng]
theorem rng_mem {lo : Int} {n : Nat} {d : D} (h : d ∈ rng lo n) : ∃ i : Nat, i < n ∧ d = .int (lo + i) := by
  obtain ⟨i, hi⟩ := List.getElem?_of_mem h
  obtain ⟨h1, h2⟩ := rng_get hi
  exact ⟨i, h1, h2⟩
theorem lows_ints (l : List Int) : D.lows 60 (l.map .int) = true := by
  rw [D.lows_iff]; intro d hd; obtain ⟨t, _, rfl⟩ := List.mem_map.mp hd; rfl
theorem memD_ints (x : Int) (l : List Int) : memD (.int x) (l.map .int) = decide (x ∈ l) := by
  induction l with
  | nil => rfl
  | cons y l ih =>
    simp only [memD, List.map_cons, List.any_cons] at ih ⊢
    rw [ih]
    by_cases h : y = x
    · subst h; simp [D.py, PyData.eqv]
    · have h' : ¬ x = y := fun e => h e.symm
      simp [D.py, PyData.eqv, h, h']
theorem nin_ints (x : Int) (o : Bool) (l : List Int) : ninD (.int x) (.lst o (l.map .int)) = some (.bool (!decide (x ∈ l))) := by
  have h : D.low 60 (.int x) = true := rfl
  simp only [ninD, h, lows_ints, memD_ints, Bool.and_self, if_true]
theorem in_ints (x : Int) (o : Bool) (l : List Int) : inD (.int x) (.lst o (l.map .int)) = some (.bool (decide (x ∈ l))) := by
  have h : D.low 60 (.int x) = true := rfl
  simp only [inD, h, lows_ints, memD_ints, Bool.and_self, if_true]
theorem ne_nil_ints (o o' : Bool) (l : List Int) : neE (.lst o (l.map .int)) (.lst o' []) = some (.bool (!l.isEmpty)) := by
  apply neE_of
  have h : D.low 60 (.lst o (l.map .int)) = true := by
    show D.lows 59 (l.map .int) = true
    rw [D.lows_iff]; intro d hd; obtain ⟨t, _, rfl⟩ := List.mem_map.mp hd; rfl
  have h2 : D.low 60 (.lst o' []) = true := rfl
  cases l with
  | nil =>
    have h3 : D.low 60 (.lst o []) = true := rfl
    simp [neD, h2, h3, D.py, D.pys, PyData.eqv, PyData.eqvAll]
  | cons y l => simp only [neD, h, h2]; simp [D.py, D.pys, PyData.eqv, PyData.eqvAll]
theorem vals_append : ∀ (l : List Int) (k : List It), vals? (l.map (It.val ∘ D.int) ++ k) = (vals? k).map (l.map D.int ++ ·)
  | [], k => by cases h : vals? k <;> simp [h]
  | x :: l, k => by
    simp only [List.map_cons, List.cons_append, Function.comp, vals?]
    rw [vals_append l k]
    cases h : vals? k <;> simp
theorem cast_nd {m : Nat} : ((List.range m).map fun (k : Nat) => (k : Int)).Nodup := by
  unfold List.Nodup
  rw [List.pairwise_map]
  exact List.nodup_range.imp fun h e => h (by omega)
theorem sub_len : ∀ {l k : List Int}, l.Nodup → (∀ x ∈ l, x ∈ k) → l.length ≤ k.length
  | [], _, _, _ => by simp
  | x :: l, k, nd, h => by
    have hx : x ∈ k := h x (by simp)
    rw [List.nodup_cons] at nd
    have := sub_len (l := l) (k := k.erase x) nd.2 fun y hy => (List.mem_erase_of_ne (by rintro rfl; exact nd.1 hy)).mpr (h y (by simp [hy]))
    rw [List.length_erase_of_mem hx] at this
    have := List.length_pos_of_mem hx
    simp; omega
def ups (m : Int) : List Int := (List.range m.toNat).map fun (k : Nat) => (k : Int)
theorem ups_mem {m x : Int} : x ∈ ups m ↔ 0 ≤ x ∧ x < m := by
  unfold ups; rw [List.mem_map]
  constructor
  · rintro ⟨k, hk, rfl⟩; rw [List.mem_range] at hk; omega
  · rintro ⟨h0, h1⟩; exact ⟨x.toNat, by rw [List.mem_range]; omega, by omega⟩
theorem ups_nd (m : Int) : (ups m).Nodup := cast_nd
theorem ups_len {m : Int} (h : 0 ≤ m) : ((ups m).length : Int) = m := by unfold ups; simp; omega
theorem rng_ups {m : Int} : rng 0 m.toNat = (ups m).map .int := rng_ints _
theorem atI_of {α : Type} {xs : List α} {k : Nat} {x : α} (h : xs[k]? = some x) : atI xs (k : Int) = some x := by
  obtain ⟨hl, _⟩ := List.getElem?_eq_some_iff.mp h
  have : (k : Int) < (xs.length : Int) := by omega
  simp [atI, ixN, this, h]
theorem ixN_of {n : Nat} {r : Int} (h0 : 0 ≤ r) (h1 : r < n) : ixN n r = some r.toNat := by
  unfold ixN; rw [if_pos h0, if_pos h1]
theorem cut63 {ds : List D} (h : ds.length ≤ 63) : cutD ds none (some 63) = ds := by
  apply cutD_whole
  simp [HT.sIx, h]
theorem erase_perm {α : Type} : ∀ {l : List α} {i : Nat} (h : i < l.length), (l[i] :: l.eraseIdx i).Perm l
  | x :: l, 0, _ => by simp
  | x :: l, i + 1, h => by
    have := erase_perm (l := l) (i := i) (by simpa using h)
    simp only [List.getElem_cons_succ, List.eraseIdx_cons_succ]
    exact (List.Perm.swap _ _ _).trans (this.cons x)
theorem map_erase {α β : Type} (f : α → β) : ∀ (l : List α) (i : Nat), (l.map f).eraseIdx i = (l.eraseIdx i).map f
  | [], _ => by simp
  | x :: l, 0 => by simp
  | x :: l, i + 1 => by simp [map_erase f l i]
theorem nodup_at {α : Type} {l : List α} (nd : l.Nodup) {i j : Nat} {x : α} (hi : l[i]? = some x) (hj : l[j]? = some x) : i = j := by
  obtain ⟨l1, e1⟩ := List.getElem?_eq_some_iff.mp hi
  obtain ⟨l2, e2⟩ := List.getElem?_eq_some_iff.mp hj
  have p := List.pairwise_iff_getElem.mp nd
  rcases Nat.lt_trichotomy i j with h | h | h
  · exact absurd (e1.trans e2.symm) (p i j l1 l2 h)
  · exact h
  · exact absurd (e2.trans e1.symm) (p j i l2 l1 h)
theorem last_get {α : Type} (x : α) (rest : List α) (y : α) : (x :: (rest ++ [y]))[rest.length + 1]? = some y := by simp
theorem last_set {α : Type} (x : α) (rest : List α) (y z : α) : (x :: (rest ++ [y])).set (rest.length + 1) z = x :: (rest ++ [z]) := by simp
/-! ### what repr may be asked of -/
/-- d may be written: its items are short, there are at most k within, at most j deep -/
structure Tame (k j : Nat) (d : D) : Prop where
  shw : d.shw = true
  lv : d.py.leavesShort 13 = true
  bk : d.py.bulk ≤ k
  dp : d.py.depth ≤ j
theorem Tame.rep {k j : Nat} {d : D} (t : Tame k j d) (hk : k ≤ 1000000) (hj : j ≤ 60) : reprD [d] = some (.str d.py.shown) := by
  have h := PyData.shown_le_bulk 13 (by decide) d.py t.lv
  have h1 : d.py.shown.length ≤ sizeLine := by rw [sizeLine_eq]; have := t.bk; omega
  have h2 : d.py.depth ≤ 60 := Nat.le_trans t.dp hj
  simp only [reprD, t.shw, h1, h2, decide_true, Bool.and_self, if_true]
theorem Tame.mono {k j k' j' : Nat} {d : D} (t : Tame k j d) (hk : k ≤ k') (hj : j ≤ j') : Tame k' j' d := ⟨t.shw, t.lv, Nat.le_trans t.bk hk, Nat.le_trans t.dp hj⟩
theorem Tame.none {j : Nat} : Tame 0 j .none := ⟨rfl, rfl, Nat.le_refl 0, Nat.zero_le j⟩
theorem Tame.bool {j : Nat} (b : Bool) : Tame 0 j (.bool b) := ⟨rfl, rfl, Nat.le_refl 0, Nat.zero_le j⟩
theorem Tame.int {j : Nat} {i : Int} (h1 : -999999999999 ≤ i) (h2 : i ≤ 999999999999) : Tame 0 j (.int i) := by
  refine ⟨?_, ?_, Nat.le_refl 0, Nat.zero_le j⟩
  · have h : i.natAbs < 2 ^ 40 := by omega
    have : i.natAbs.log2 < 1920 := by
      by_cases hz : i.natAbs = 0
      · rw [hz]; decide
      · have := (Nat.log2_lt hz).mpr h
        omega
    simp only [D.shw, this, decide_true]
  · simp only [D.py, PyData.leavesShort, decide_eq_true_eq]
    exact PyData.shown_int_le2 h1 h2
theorem Tame.dic {j : Nat} (h : 1 ≤ j) : Tame 0 j (.dic [] []) := ⟨rfl, rfl, Nat.le_refl 0, by simpa [D.py, PyData.depth, PyData.depthKv] using h⟩
theorem tames {k j : Nat} : ∀ {ds : List D}, (∀ d ∈ ds, Tame k j d) → D.shws ds = true ∧ PyData.leavesShortAll 13 (D.pys ds) = true ∧ PyData.bulkAll (D.pys ds) ≤ ds.length * (k + 1) ∧ PyData.depthAll (D.pys ds) ≤ j
  | [], _ => ⟨rfl, rfl, by simp [D.pys, PyData.bulkAll], by simp [D.pys, PyData.depthAll]⟩
  | d :: ds, h => by
    obtain ⟨h1, h2, h3, h4⟩ := tames (ds := ds) fun e he => h e (by simp [he])
    have t := h d (by simp)
    refine ⟨by simp [D.shws, t.shw, h1], by simp [D.pys, PyData.leavesShortAll, t.lv, h2], ?_, ?_⟩
    · simp only [D.pys, PyData.bulkAll, List.length_cons]
      have := t.bk
      rw [Nat.add_mul, Nat.one_mul]; omega
    · simp only [D.pys, PyData.depthAll]
      have := t.dp
      omega
theorem Tame.lst {k j : Nat} {o : Bool} {ds : List D} (h : ∀ d ∈ ds, Tame k j d) (n : Nat) (hn : ds.length ≤ n) : Tame (n * (k + 1)) (j + 1) (.lst o ds) := by
  obtain ⟨h1, h2, h3, h4⟩ := tames h
  refine ⟨by simpa [D.shw] using h1, by simpa [D.py, PyData.leavesShort] using h2, ?_, by simp only [D.py, PyData.depth]; omega⟩
  simp only [D.py, PyData.bulk]
  exact Nat.le_trans h3 (Nat.mul_le_mul_right _ hn)
theorem Tame.tup {k j : Nat} {ds : List D} (h : ∀ d ∈ ds, Tame k j d) (n : Nat) (hn : ds.length ≤ n) : Tame (n * (k + 1)) (j + 1) (.tup ds) := by
  obtain ⟨h1, h2, h3, h4⟩ := tames h
  refine ⟨by simpa [D.shw] using h1, by simpa [D.py, PyData.leavesShort] using h2, ?_, by simp only [D.py, PyData.depth]; omega⟩
  simp only [D.py, PyData.bulk]
  exact Nat.le_trans h3 (Nat.mul_le_mul_right _ hn)
theorem cut_mem {α : Type} {xs : List α} {lo hi : Option Int} {x : α} (h : x ∈ cutD xs lo hi) : x ∈ xs := List.mem_of_mem_drop (List.mem_of_mem_take h)
theorem cut_len {α : Type} (xs : List α) (lo hi : Option Int) : (cutD xs lo hi).length ≤ xs.length := by
  unfold cutD; rw [List.length_take, List.length_drop]; omega
theorem rep_mem {α : Type} {n : Nat} {xs : List α} {x : α} (h : x ∈ (List.replicate n xs).flatten) : x ∈ xs := by
  obtain ⟨l, hl, hx⟩ := List.mem_flatten.mp h
  rw [List.eq_of_mem_replicate hl] at hx; exact hx
theorem add_ll (o o' : Bool) (a b : List D) (h : a.length + b.length ≤ 16777216) : addD (.lst o a) (.lst o' b) = some (.lst true (a ++ b)) := by
  have h' : a.length + b.length ≤ sizeLine := by rw [sizeLine_eq]; exact h
  simp only [addD, if_pos h']
theorem add_ii (i j : Int) : addD (.int i) (.int j) = some (.int (i + j)) := rfl
/-! ### items of short displays -/
section
variable {α : Type} (a b c d e : α)
theorem at1_0 : atI [a] 0 = some a := rfl
theorem at2_0 : atI [a, b] 0 = some a := rfl
theorem at2_1 : atI [a, b] 1 = some b := rfl
theorem at3_0 : atI [a, b, c] 0 = some a := rfl
theorem at3_1 : atI [a, b, c] 1 = some b := rfl
theorem at3_2 : atI [a, b, c] 2 = some c := rfl
theorem at4_0 : atI [a, b, c, d] 0 = some a := rfl
theorem at4_1 : atI [a, b, c, d] 1 = some b := rfl
theorem at4_2 : atI [a, b, c, d] 2 = some c := rfl
theorem at4_3 : atI [a, b, c, d] 3 = some d := rfl
theorem at5_0 : atI [a, b, c, d, e] 0 = some a := rfl
theorem at5_1 : atI [a, b, c, d, e] 1 = some b := rfl
theorem at5_2 : atI [a, b, c, d, e] 2 = some c := rfl
theorem at5_3 : atI [a, b, c, d, e] 3 = some d := rfl
theorem at5_4 : atI [a, b, c, d, e] 4 = some e := rfl
end
/-! ### isinstance, by the thing in hand -/
section
variable (b : Bool) (i : Int) (x : Str) (o : Bool) (xs : List D) (ks : List Key)
theorem isa_non_int : isaD [.none, .ty "int"] = some (.bool false) := rfl
theorem isa_non_bool : isaD [.none, .ty "bool"] = some (.bool false) := rfl
theorem isa_non_str : isaD [.none, .ty "str"] = some (.bool false) := rfl
theorem isa_non_list : isaD [.none, .ty "list"] = some (.bool false) := rfl
theorem isa_non_tuple : isaD [.none, .ty "tuple"] = some (.bool false) := rfl
theorem isa_non_dict : isaD [.none, .ty "dict"] = some (.bool false) := rfl
theorem isa_non_lt : isaTD [.none, .tup [.ty "list", .ty "tuple"]] = some (.bool false) := rfl
theorem isa_bool_int : isaD [.bool b, .ty "int"] = some (.bool true) := rfl
theorem isa_bool_bool : isaD [.bool b, .ty "bool"] = some (.bool true) := rfl
theorem isa_bool_str : isaD [.bool b, .ty "str"] = some (.bool false) := rfl
theorem isa_bool_list : isaD [.bool b, .ty "list"] = some (.bool false) := rfl
theorem isa_bool_tuple : isaD [.bool b, .ty "tuple"] = some (.bool false) := rfl
theorem isa_bool_dict : isaD [.bool b, .ty "dict"] = some (.bool false) := rfl
theorem isa_bool_lt : isaTD [.bool b, .tup [.ty "list", .ty "tuple"]] = some (.bool false) := rfl
theorem isa_int_int : isaD [.int i, .ty "int"] = some (.bool true) := rfl
theorem isa_int_bool : isaD [.int i, .ty "bool"] = some (.bool false) := rfl
theorem isa_int_str : isaD [.int i, .ty "str"] = some (.bool false) := rfl
theorem isa_int_list : isaD [.int i, .ty "list"] = some (.bool false) := rfl
theorem isa_int_tuple : isaD [.int i, .ty "tuple"] = some (.bool false) := rfl
theorem isa_int_dict : isaD [.int i, .ty "dict"] = some (.bool false) := rfl
theorem isa_int_lt : isaTD [.int i, .tup [.ty "list", .ty "tuple"]] = some (.bool false) := rfl
theorem isa_str_int : isaD [.str x, .ty "int"] = some (.bool false) := rfl
theorem isa_str_bool : isaD [.str x, .ty "bool"] = some (.bool false) := rfl
theorem isa_str_str : isaD [.str x, .ty "str"] = some (.bool true) := rfl
theorem isa_str_list : isaD [.str x, .ty "list"] = some (.bool false) := rfl
theorem isa_str_tuple : isaD [.str x, .ty "tuple"] = some (.bool false) := rfl
theorem isa_str_dict : isaD [.str x, .ty "dict"] = some (.bool false) := rfl
theorem isa_str_lt : isaTD [.str x, .tup [.ty "list", .ty "tuple"]] = some (.bool false) := rfl
theorem isa_lst_int : isaD [.lst o xs, .ty "int"] = some (.bool false) := rfl
theorem isa_lst_bool : isaD [.lst o xs, .ty "bool"] = some (.bool false) := rfl
theorem isa_lst_str : isaD [.lst o xs, .ty "str"] = some (.bool false) := rfl
theorem isa_lst_list : isaD [.lst o xs, .ty "list"] = some (.bool true) := rfl
theorem isa_lst_tuple : isaD [.lst o xs, .ty "tuple"] = some (.bool false) := rfl
theorem isa_lst_dict : isaD [.lst o xs, .ty "dict"] = some (.bool false) := rfl
theorem isa_lst_lt : isaTD [.lst o xs, .tup [.ty "list", .ty "tuple"]] = some (.bool true) := rfl
theorem isa_frz_int : isaD [.frz xs, .ty "int"] = some (.bool false) := rfl
theorem isa_frz_bool : isaD [.frz xs, .ty "bool"] = some (.bool false) := rfl
theorem isa_frz_str : isaD [.frz xs, .ty "str"] = some (.bool false) := rfl
theorem isa_frz_list : isaD [.frz xs, .ty "list"] = some (.bool true) := rfl
theorem isa_frz_tuple : isaD [.frz xs, .ty "tuple"] = some (.bool false) := rfl
theorem isa_frz_dict : isaD [.frz xs, .ty "dict"] = some (.bool false) := rfl
theorem isa_frz_lt : isaTD [.frz xs, .tup [.ty "list", .ty "tuple"]] = some (.bool true) := rfl
theorem isa_tup_int : isaD [.tup xs, .ty "int"] = some (.bool false) := rfl
theorem isa_tup_bool : isaD [.tup xs, .ty "bool"] = some (.bool false) := rfl
theorem isa_tup_str : isaD [.tup xs, .ty "str"] = some (.bool false) := rfl
theorem isa_tup_list : isaD [.tup xs, .ty "list"] = some (.bool false) := rfl
theorem isa_tup_tuple : isaD [.tup xs, .ty "tuple"] = some (.bool true) := rfl
theorem isa_tup_dict : isaD [.tup xs, .ty "dict"] = some (.bool false) := rfl
theorem isa_tup_lt : isaTD [.tup xs, .tup [.ty "list", .ty "tuple"]] = some (.bool true) := rfl
theorem isa_dic_int : isaD [.dic ks xs, .ty "int"] = some (.bool false) := rfl
theorem isa_dic_bool : isaD [.dic ks xs, .ty "bool"] = some (.bool false) := rfl
theorem isa_dic_str : isaD [.dic ks xs, .ty "str"] = some (.bool false) := rfl
theorem isa_dic_list : isaD [.dic ks xs, .ty "list"] = some (.bool false) := rfl
theorem isa_dic_tuple : isaD [.dic ks xs, .ty "tuple"] = some (.bool false) := rfl
theorem isa_dic_dict : isaD [.dic ks xs, .ty "dict"] = some (.bool true) := rfl
theorem isa_dic_lt : isaTD [.dic ks xs, .tup [.ty "list", .ty "tuple"]] = some (.bool false) := rfl
end
end DL
namespace Lk07
open PySem L2 DL
/-! ### the steps, for simp -/
@[local simp] theorem s_runB_1 : type_of% @DL.runB.eq_1 := @DL.runB.eq_1
@[local simp] theorem s_startE_1 : type_of% @DL.startE.eq_1 := @DL.startE.eq_1
@[local simp] theorem s_bnd_ap : type_of% @DL.bnd_ap := @DL.bnd_ap
@[local simp] theorem s_ret_ap : type_of% @DL.ret_ap := @DL.ret_ap
@[local simp] theorem s_kst_ap : type_of% @DL.kst_ap := @DL.kst_ap
@[local simp] theorem s_gP_ap : type_of% @DL.gP_ap := @DL.gP_ap
@[local simp] theorem s_gS_ap : type_of% @DL.gS_ap := @DL.gS_ap
@[local simp] theorem s_gM_ap : type_of% @DL.gM_ap := @DL.gM_ap
@[local simp] theorem s_gC_ap : type_of% @DL.gC_ap := @DL.gC_ap
@[local simp] theorem s_tst_ap : type_of% @DL.tst_ap := @DL.tst_ap
@[local simp] theorem s_tst1_ap : type_of% @DL.tst1_ap := @DL.tst1_ap
@[local simp] theorem s_binI_ap : type_of% @DL.binI_ap := @DL.binI_ap
@[local simp] theorem s_binC_ap : type_of% @DL.binC_ap := @DL.binC_ap
@[local simp] theorem s_ixM_ap : type_of% @DL.ixM_ap := @DL.ixM_ap
@[local simp] theorem s_args0_ap : type_of% @DL.args0_ap := @DL.args0_ap
@[local simp] theorem s_argsC_ap : type_of% @DL.argsC_ap := @DL.argsC_ap
@[local simp] theorem s_argsS_ap : type_of% @DL.argsS_ap := @DL.argsS_ap
@[local simp] theorem s_cliI_ap : type_of% @DL.cliI_ap := @DL.cliI_ap
@[local simp] theorem s_cliC_ap : type_of% @DL.cliC_ap := @DL.cliC_ap
@[local simp] theorem s_dspL_ap : type_of% @DL.dspL_ap := @DL.dspL_ap
@[local simp] theorem s_dspT_ap : type_of% @DL.dspT_ap := @DL.dspT_ap
@[local simp] theorem s_call_ap : type_of% @DL.call_ap := @DL.call_ap
@[local simp] theorem s_callK_ap : type_of% @DL.callK_ap := @DL.callK_ap
@[local simp] theorem s_appA_ap : type_of% @DL.appA_ap := @DL.appA_ap
@[local simp] theorem s_notB_ap : type_of% @DL.notB_ap := @DL.notB_ap
@[local simp] theorem s_andB_ap : type_of% @DL.andB_ap := @DL.andB_ap
@[local simp] theorem s_orB_ap : type_of% @DL.orB_ap := @DL.orB_ap
@[local simp] theorem s_notV_ap : type_of% @DL.notV_ap := @DL.notV_ap
@[local simp] theorem s_andV_ap : type_of% @DL.andV_ap := @DL.andV_ap
@[local simp] theorem s_orV_ap : type_of% @DL.orV_ap := @DL.orV_ap
@[local simp] theorem s_ifV_ap : type_of% @DL.ifV_ap := @DL.ifV_ap
@[local simp] theorem s_ifS_ap : type_of% @DL.ifS_ap := @DL.ifS_ap
@[local simp] theorem s_unM_ap : type_of% @DL.unM_ap := @DL.unM_ap
@[local simp] theorem s_sq_ap : type_of% @DL.sq_ap := @DL.sq_ap
@[local simp] theorem s_skp_ap : type_of% @DL.skp_ap := @DL.skp_ap
@[local simp] theorem s_rtn_ap : type_of% @DL.rtn_ap := @DL.rtn_ap
@[local simp] theorem s_drp_ap : type_of% @DL.drp_ap := @DL.drp_ap
@[local simp] theorem s_asg_ap : type_of% @DL.asg_ap := @DL.asg_ap
@[local simp] theorem s_toN_ap : type_of% @DL.toN_ap := @DL.toN_ap
@[local simp] theorem s_thawM_ap : type_of% @DL.thawM_ap := @DL.thawM_ap
@[local simp] theorem s_forS_ap : type_of% @DL.forS_ap := @DL.forS_ap
@[local simp] theorem s_itS_ap : type_of% @DL.itS_ap := @DL.itS_ap
@[local simp] theorem s_comp_ap : type_of% @DL.comp_ap := @DL.comp_ap
@[local simp] theorem s_chn_ap : type_of% @DL.chn_ap := @DL.chn_ap
@[local simp] theorem s_chn3_ap : type_of% @DL.chn3_ap := @DL.chn3_ap
@[local simp] theorem s_lnk_ap : type_of% @DL.lnk_ap := @DL.lnk_ap
@[local simp] theorem s_fin1_ap : type_of% @DL.fin1_ap := @DL.fin1_ap
@[local simp] theorem s_slM_ap : type_of% @DL.slM_ap := @DL.slM_ap
@[local simp] theorem s_o0_ap : type_of% @DL.o0_ap := @DL.o0_ap
@[local simp] theorem s_o1_ap : type_of% @DL.o1_ap := @DL.o1_ap
@[local simp] theorem s_It_at_1 : type_of% @DL.It.at.eq_1 := @DL.It.at.eq_1
@[local simp] theorem s_It_at_2 : type_of% @DL.It.at.eq_2 := @DL.It.at.eq_2
@[local simp] theorem s_It_ato_1 : type_of% @DL.It.ato.eq_1 := @DL.It.ato.eq_1
@[local simp] theorem s_It_sate_1 : type_of% @DL.It.sate.eq_1 := @DL.It.sate.eq_1
@[local simp] theorem s_It_sate_2 : type_of% @DL.It.sate.eq_2 := @DL.It.sate.eq_2
@[local simp] theorem s_It_sate_3 : type_of% @DL.It.sate.eq_3 := @DL.It.sate.eq_3
@[local simp] theorem s_It_sat_1 : type_of% @DL.It.sat.eq_1 := @DL.It.sat.eq_1
@[local simp] theorem s_It_sat_2 : type_of% @DL.It.sat.eq_2 := @DL.It.sat.eq_2
@[local simp] theorem s_itemOf_1 : type_of% @DL.itemOf.eq_1 := @DL.itemOf.eq_1
@[local simp] theorem s_itemOf_pick_1 : type_of% @DL.itemOf.pick.eq_1 := @DL.itemOf.pick.eq_1
@[local simp] theorem s_itemOf_pick_2 : type_of% @DL.itemOf.pick.eq_2 := @DL.itemOf.pick.eq_2
@[local simp] theorem s_itemOf_pick_3 : type_of% @DL.itemOf.pick.eq_3 := @DL.itemOf.pick.eq_3
@[local simp] theorem s_ge_ii : type_of% @DL.ge_ii := @DL.ge_ii
@[local simp] theorem s_le_ii : type_of% @DL.le_ii := @DL.le_ii
@[local simp] theorem s_gt_ii : type_of% @DL.gt_ii := @DL.gt_ii
@[local simp] theorem s_lt_ii : type_of% @DL.lt_ii := @DL.lt_ii
@[local simp] theorem s_isL_1 : type_of% @DL.isL.eq_1 := @DL.isL.eq_1
@[local simp] theorem s_nowL_1 : type_of% @DL.nowL.eq_1 := @DL.nowL.eq_1
@[local simp] theorem s_putL_1 : type_of% @DL.putL.eq_1 := @DL.putL.eq_1
@[local simp] theorem s_easy_1 : type_of% @DL.easy.eq_1 := @DL.easy.eq_1
@[local simp] theorem s_easy_2 : type_of% @DL.easy.eq_2 := @DL.easy.eq_2
@[local simp] theorem s_D_free_1 : type_of% @DL.D.free.eq_1 := @DL.D.free.eq_1
@[local simp] theorem s_D_free_2 : type_of% @DL.D.free.eq_2 := @DL.D.free.eq_2
@[local simp] theorem s_D_free_3 : type_of% @DL.D.free.eq_3 := @DL.D.free.eq_3
@[local simp] theorem s_D_frees_1 : type_of% @DL.D.frees.eq_1 := @DL.D.frees.eq_1
@[local simp] theorem s_D_frees_2 : type_of% @DL.D.frees.eq_2 := @DL.D.frees.eq_2
@[local simp] theorem s_D_share_1 : type_of% @DL.D.share.eq_1 := @DL.D.share.eq_1
@[local simp] theorem s_D_share_2 : type_of% @DL.D.share.eq_2 := @DL.D.share.eq_2
@[local simp] theorem s_D_share_3 : type_of% @DL.D.share.eq_3 := @DL.D.share.eq_3
@[local simp] theorem s_D_share_4 : type_of% @DL.D.share.eq_4 := @DL.D.share.eq_4
@[local simp] theorem s_D_share_5 : type_of% @DL.D.share.eq_5 := @DL.D.share.eq_5
@[local simp] theorem s_D_share_6 : type_of% @DL.D.share.eq_6 := @DL.D.share.eq_6
@[local simp] theorem s_D_share_7 : type_of% @DL.D.share.eq_7 := @DL.D.share.eq_7
@[local simp] theorem s_D_share_8 : type_of% @DL.D.share.eq_8 := @DL.D.share.eq_8
@[local simp] theorem s_D_share_9 : type_of% @DL.D.share.eq_9 := @DL.D.share.eq_9
@[local simp] theorem s_D_share_10 : type_of% @DL.D.share.eq_10 := @DL.D.share.eq_10
@[local simp] theorem s_D_share_11 : type_of% @DL.D.share.eq_11 := @DL.D.share.eq_11
@[local simp] theorem s_D_share_12 : type_of% @DL.D.share.eq_12 := @DL.D.share.eq_12
@[local simp] theorem s_D_shares_1 : type_of% @DL.D.shares.eq_1 := @DL.D.shares.eq_1
@[local simp] theorem s_D_shares_2 : type_of% @DL.D.shares.eq_2 := @DL.D.shares.eq_2
@[local simp] theorem s_subD_1 : type_of% @DL.subD.eq_1 := @DL.subD.eq_1
@[local simp] theorem s_subD_2 : type_of% @DL.subD.eq_2 := @DL.subD.eq_2
@[local simp] theorem s_modD_1 : type_of% @DL.modD.eq_1 := @DL.modD.eq_1
@[local simp] theorem s_modD_2 : type_of% @DL.modD.eq_2 := @DL.modD.eq_2
@[local simp] theorem s_divD_1 : type_of% @DL.divD.eq_1 := @DL.divD.eq_1
@[local simp] theorem s_divD_2 : type_of% @DL.divD.eq_2 := @DL.divD.eq_2
@[local simp] theorem s_intD_1 : type_of% @DL.intD.eq_1 := @DL.intD.eq_1
@[local simp] theorem s_intD_2 : type_of% @DL.intD.eq_2 := @DL.intD.eq_2
@[local simp] theorem s_intD_3 : type_of% @DL.intD.eq_3 := @DL.intD.eq_3
@[local simp] theorem s_lenD_1 : type_of% @DL.lenD.eq_1 := @DL.lenD.eq_1
@[local simp] theorem s_lenD_2 : type_of% @DL.lenD.eq_2 := @DL.lenD.eq_2
@[local simp] theorem s_lenD_3 : type_of% @DL.lenD.eq_3 := @DL.lenD.eq_3
@[local simp] theorem s_lenD_4 : type_of% @DL.lenD.eq_4 := @DL.lenD.eq_4
@[local simp] theorem s_lenD_5 : type_of% @DL.lenD.eq_5 := @DL.lenD.eq_5
@[local simp] theorem s_atAll_1 : type_of% @DL.atAll.eq_1 := @DL.atAll.eq_1
@[local simp] theorem s_atAll_2 : type_of% @DL.atAll.eq_2 := @DL.atAll.eq_2
@[local simp] theorem s_sateAll_1 : type_of% @DL.sateAll.eq_1 := @DL.sateAll.eq_1
@[local simp] theorem s_sateAll_2 : type_of% @DL.sateAll.eq_2 := @DL.sateAll.eq_2
@[local simp] theorem s_ixOf_1 : type_of% @DL.ixOf.eq_1 := @DL.ixOf.eq_1
@[local simp] theorem s_valso_1 : type_of% @DL.vals?.eq_1 := @DL.vals?.eq_1
@[local simp] theorem s_valso_2 : type_of% @DL.vals?.eq_2 := @DL.vals?.eq_2
@[local simp] theorem s_valso_3 : type_of% @DL.vals?.eq_3 := @DL.vals?.eq_3
@[local simp] theorem s_negD_1 : type_of% @DL.negD.eq_1 := @DL.negD.eq_1
@[local simp] theorem s_negD_2 : type_of% @DL.negD.eq_2 := @DL.negD.eq_2
@[local simp] theorem s_mulOk_1 : type_of% @DL.mulOk.eq_1 := @DL.mulOk.eq_1
@[local simp] theorem s_toX_1 : type_of% @DL.toX.eq_1 := @DL.toX.eq_1
@[local simp] theorem s_augX_1 : type_of% @DL.augX.eq_1 := @DL.augX.eq_1
@[local simp] theorem s_augN_1 : type_of% @DL.augN.eq_1 := @DL.augN.eq_1
@[local simp] theorem s_par2_ap : type_of% @DL.par2_ap := @DL.par2_ap
@[local simp] theorem s_par3_ap : type_of% @DL.par3_ap := @DL.par3_ap
@[local simp] theorem s_eqE_nil : type_of% @DL.eqE_nil := @DL.eqE_nil
@[local simp] theorem s_eqE_ii : type_of% @DL.eqE_ii := @DL.eqE_ii
@[local simp] theorem s_neE_ii : type_of% @DL.neE_ii := @DL.neE_ii
@[local simp] theorem s_eqE_ss : type_of% @DL.eqE_ss := @DL.eqE_ss
@[local simp] theorem s_neE_ss : type_of% @DL.neE_ss := @DL.neE_ss
@[local simp] theorem s_opPart_1 : type_of% @DL.opPart.eq_1 := @DL.opPart.eq_1
@[local simp] theorem s_spill_1 : type_of% @DL.spill.eq_1 := @DL.spill.eq_1
@[local simp] theorem s_spill_2 : type_of% @DL.spill.eq_2 := @DL.spill.eq_2
@[local simp] theorem s_spill_3 : type_of% @DL.spill.eq_3 := @DL.spill.eq_3
@[local simp] theorem s_nev_1 : type_of% @DL.nev.eq_1 := @DL.nev.eq_1
@[local simp] theorem s_toT_1 : type_of% @DL.toT.eq_1 := @DL.toT.eq_1
@[local simp] theorem s_toT_2 : type_of% @DL.toT.eq_2 := @DL.toT.eq_2
@[local simp] theorem s_tgsC_1 : type_of% @DL.tgsC.eq_1 := @DL.tgsC.eq_1
@[local simp] theorem s_tgsC_2 : type_of% @DL.tgsC.eq_2 := @DL.tgsC.eq_2
@[local simp] theorem s_tgs0_1 : type_of% @DL.tgs0.eq_1 := @DL.tgs0.eq_1
@[local simp] theorem s_tgs0_2 : type_of% @DL.tgs0.eq_2 := @DL.tgs0.eq_2
@[local simp] theorem s_popO_1 : type_of% @DL.popO.eq_1 := @DL.popO.eq_1
@[local simp] theorem s_popO_2 : type_of% @DL.popO.eq_2 := @DL.popO.eq_2
@[local simp] theorem s_isa_non_int : type_of% @DL.isa_non_int := @DL.isa_non_int
@[local simp] theorem s_isa_non_bool : type_of% @DL.isa_non_bool := @DL.isa_non_bool
@[local simp] theorem s_isa_non_str : type_of% @DL.isa_non_str := @DL.isa_non_str
@[local simp] theorem s_isa_non_list : type_of% @DL.isa_non_list := @DL.isa_non_list
@[local simp] theorem s_isa_non_tuple : type_of% @DL.isa_non_tuple := @DL.isa_non_tuple
@[local simp] theorem s_isa_non_dict : type_of% @DL.isa_non_dict := @DL.isa_non_dict
@[local simp] theorem s_isa_non_lt : type_of% @DL.isa_non_lt := @DL.isa_non_lt
@[local simp] theorem s_isa_bool_int : type_of% @DL.isa_bool_int := @DL.isa_bool_int
@[local simp] theorem s_isa_bool_bool : type_of% @DL.isa_bool_bool := @DL.isa_bool_bool
@[local simp] theorem s_isa_bool_str : type_of% @DL.isa_bool_str := @DL.isa_bool_str
@[local simp] theorem s_isa_bool_list : type_of% @DL.isa_bool_list := @DL.isa_bool_list
@[local simp] theorem s_isa_bool_tuple : type_of% @DL.isa_bool_tuple := @DL.isa_bool_tuple
@[local simp] theorem s_isa_bool_dict : type_of% @DL.isa_bool_dict := @DL.isa_bool_dict
@[local simp] theorem s_isa_bool_lt : type_of% @DL.isa_bool_lt := @DL.isa_bool_lt
@[local simp] theorem s_isa_int_int : type_of% @DL.isa_int_int := @DL.isa_int_int
@[local simp] theorem s_isa_int_bool : type_of% @DL.isa_int_bool := @DL.isa_int_bool
@[local simp] theorem s_isa_int_str : type_of% @DL.isa_int_str := @DL.isa_int_str
@[local simp] theorem s_isa_int_list : type_of% @DL.isa_int_list := @DL.isa_int_list
@[local simp] theorem s_isa_int_tuple : type_of% @DL.isa_int_tuple := @DL.isa_int_tuple
@[local simp] theorem s_isa_int_dict : type_of% @DL.isa_int_dict := @DL.isa_int_dict
@[local simp] theorem s_isa_int_lt : type_of% @DL.isa_int_lt := @DL.isa_int_lt
@[local simp] theorem s_isa_str_int : type_of% @DL.isa_str_int := @DL.isa_str_int
@[local simp] theorem s_isa_str_bool : type_of% @DL.isa_str_bool := @DL.isa_str_bool
@[local simp] theorem s_isa_str_str : type_of% @DL.isa_str_str := @DL.isa_str_str
@[local simp] theorem s_isa_str_list : type_of% @DL.isa_str_list := @DL.isa_str_list
@[local simp] theorem s_isa_str_tuple : type_of% @DL.isa_str_tuple := @DL.isa_str_tuple
@[local simp] theorem s_isa_str_dict : type_of% @DL.isa_str_dict := @DL.isa_str_dict
@[local simp] theorem s_isa_str_lt : type_of% @DL.isa_str_lt := @DL.isa_str_lt
@[local simp] theorem s_isa_lst_int : type_of% @DL.isa_lst_int := @DL.isa_lst_int
@[local simp] theorem s_isa_lst_bool : type_of% @DL.isa_lst_bool := @DL.isa_lst_bool
@[local simp] theorem s_isa_lst_str : type_of% @DL.isa_lst_str := @DL.isa_lst_str
@[local simp] theorem s_isa_lst_list : type_of% @DL.isa_lst_list := @DL.isa_lst_list
@[local simp] theorem s_isa_lst_tuple : type_of% @DL.isa_lst_tuple := @DL.isa_lst_tuple
@[local simp] theorem s_isa_lst_dict : type_of% @DL.isa_lst_dict := @DL.isa_lst_dict
@[local simp] theorem s_isa_lst_lt : type_of% @DL.isa_lst_lt := @DL.isa_lst_lt
@[local simp] theorem s_isa_frz_int : type_of% @DL.isa_frz_int := @DL.isa_frz_int
@[local simp] theorem s_isa_frz_bool : type_of% @DL.isa_frz_bool := @DL.isa_frz_bool
@[local simp] theorem s_isa_frz_str : type_of% @DL.isa_frz_str := @DL.isa_frz_str
@[local simp] theorem s_isa_frz_list : type_of% @DL.isa_frz_list := @DL.isa_frz_list
@[local simp] theorem s_isa_frz_tuple : type_of% @DL.isa_frz_tuple := @DL.isa_frz_tuple
@[local simp] theorem s_isa_frz_dict : type_of% @DL.isa_frz_dict := @DL.isa_frz_dict
@[local simp] theorem s_isa_frz_lt : type_of% @DL.isa_frz_lt := @DL.isa_frz_lt
@[local simp] theorem s_isa_tup_int : type_of% @DL.isa_tup_int := @DL.isa_tup_int
@[local simp] theorem s_isa_tup_bool : type_of% @DL.isa_tup_bool := @DL.isa_tup_bool
@[local simp] theorem s_isa_tup_str : type_of% @DL.isa_tup_str := @DL.isa_tup_str
@[local simp] theorem s_isa_tup_list : type_of% @DL.isa_tup_list := @DL.isa_tup_list
@[local simp] theorem s_isa_tup_tuple : type_of% @DL.isa_tup_tuple := @DL.isa_tup_tuple
@[local simp] theorem s_isa_tup_dict : type_of% @DL.isa_tup_dict := @DL.isa_tup_dict
@[local simp] theorem s_isa_tup_lt : type_of% @DL.isa_tup_lt := @DL.isa_tup_lt
@[local simp] theorem s_isa_dic_int : type_of% @DL.isa_dic_int := @DL.isa_dic_int
@[local simp] theorem s_isa_dic_bool : type_of% @DL.isa_dic_bool := @DL.isa_dic_bool
@[local simp] theorem s_isa_dic_str : type_of% @DL.isa_dic_str := @DL.isa_dic_str
@[local simp] theorem s_isa_dic_list : type_of% @DL.isa_dic_list := @DL.isa_dic_list
@[local simp] theorem s_isa_dic_tuple : type_of% @DL.isa_dic_tuple := @DL.isa_dic_tuple
@[local simp] theorem s_isa_dic_dict : type_of% @DL.isa_dic_dict := @DL.isa_dic_dict
@[local simp] theorem s_isa_dic_lt : type_of% @DL.isa_dic_lt := @DL.isa_dic_lt
@[local simp] theorem s_at1_0 : type_of% @DL.at1_0 := @DL.at1_0
@[local simp] theorem s_at2_0 : type_of% @DL.at2_0 := @DL.at2_0
@[local simp] theorem s_at2_1 : type_of% @DL.at2_1 := @DL.at2_1
@[local simp] theorem s_at3_0 : type_of% @DL.at3_0 := @DL.at3_0
@[local simp] theorem s_at3_1 : type_of% @DL.at3_1 := @DL.at3_1
@[local simp] theorem s_at3_2 : type_of% @DL.at3_2 := @DL.at3_2
@[local simp] theorem s_at4_0 : type_of% @DL.at4_0 := @DL.at4_0
@[local simp] theorem s_at4_1 : type_of% @DL.at4_1 := @DL.at4_1
@[local simp] theorem s_at4_2 : type_of% @DL.at4_2 := @DL.at4_2
@[local simp] theorem s_at4_3 : type_of% @DL.at4_3 := @DL.at4_3
@[local simp] theorem s_at5_0 : type_of% @DL.at5_0 := @DL.at5_0
@[local simp] theorem s_at5_1 : type_of% @DL.at5_1 := @DL.at5_1
@[local simp] theorem s_at5_2 : type_of% @DL.at5_2 := @DL.at5_2
@[local simp] theorem s_at5_3 : type_of% @DL.at5_3 := @DL.at5_3
@[local simp] theorem s_at5_4 : type_of% @DL.at5_4 := @DL.at5_4
@[local simp] theorem s_sizeLine_eq : type_of% @PySem.sizeLine_eq := @PySem.sizeLine_eq
@[local simp] theorem s_itZ_ap : type_of% @DL.itZ_ap := @DL.itZ_ap
@[local simp] theorem s_satAll_1 : type_of% @DL.satAll.eq_1 := @DL.satAll.eq_1
@[local simp] theorem s_satAll_2 : type_of% @DL.satAll.eq_2 := @DL.satAll.eq_2
@[local simp] theorem s_revM_ap : type_of% @DL.revM_ap := @DL.revM_ap
@[local simp] theorem s_add_ii : type_of% @DL.add_ii := @DL.add_ii
abbrev Tie := Int × Int × Int
def tieD (t : Tie) : D := .tup [.int t.1, .int t.2.1, .int t.2.2]
/-- ties within 0 .. n - 1, none twice, all joined -/
structure Ties (n : Int) (ts : List Tie) : Prop where
  ok : ∀ t ∈ ts, 0 ≤ t.1 ∧ t.1 < t.2.1 ∧ t.2.1 < n ∧ 1 ≤ t.2.2 ∧ t.2.2 ≤ 9
  nd : (ts.map fun t => (t.1, t.2.1)).Nodup
  jn : ∀ S : Int → Prop, S 0 → (∀ t ∈ ts, S t.1 ↔ S t.2.1) → ∀ i, 0 ≤ i → i < n → S i
theorem Ties.add {n : Int} {ts : List Tie} (T : Ties n ts) {e l k : Int} (h0 : 0 ≤ e) (h1 : e < l) (h2 : l < n) (h3 : 1 ≤ k) (h4 : k ≤ 9) (hn : (ts.filter fun t => t.1 == e && t.2.1 == l) = []) : Ties n (ts ++ [(e, l, k)]) := by
  refine ⟨fun t ht => ?_, ?_, fun S s0 hS => T.jn S s0 fun t ht => hS t (List.mem_append_left _ ht)⟩
  · rcases List.mem_append.mp ht with ht | ht
    · exact T.ok t ht
    · have e := List.mem_singleton.mp ht
      subst e
      exact ⟨h0, h1, h2, h3, h4⟩
  · rw [List.map_append, List.nodup_append]
    refine ⟨T.nd, by simp, ?_⟩
    intro p hp q hq ee
    obtain ⟨t, ht, rfl⟩ := List.mem_map.mp hp
    simp only [List.map_cons, List.map_nil, List.mem_singleton] at hq
    rw [hq] at ee
    have e1 := congrArg Prod.fst ee
    have e2 := congrArg Prod.snd ee
    simp only at e1 e2
    have := List.filter_eq_nil_iff.mp hn t ht
    simp [e1, e2] at this
def tieLe (a b : Tie) : Bool := decide (a.1 < b.1 ∨ (a.1 = b.1 ∧ (a.2.1 < b.2.1 ∨ (a.2.1 = b.2.1 ∧ a.2.2 ≤ b.2.2))))
theorem dataLt_iii (x y z x' y' z' : Int) : PySem.W.dataLt (.tuple [.int x, .int y, .int z]) (.tuple [.int x', .int y', .int z']) = decide (x < x' ∨ (x = x' ∧ (y < y' ∨ (y = y' ∧ z < z')))) := by
  have e : PyProof.Rows.lexLt PyProof.Rows.itemOrd (PySem.W.keyToksAll []) (PySem.W.keyToksAll []) = false := PyProof.Rows.lex_irrefl _
  rw [PySem.W.dataLt_tuple, PySem.W.dataLt_cons (by simp [PySem.W.alike]), PySem.W.dataLt_cons (by simp [PySem.W.alike]), PySem.W.dataLt_cons (by simp [PySem.W.alike]), e, PySem.W.dataLt_int, PySem.W.dataLt_int, PySem.W.dataLt_int]
  simp only [PyData.eqv, beq_iff_eq]
  by_cases h1 : x = x' <;> by_cases h2 : y = y' <;> by_cases h3 : z = z' <;> simp [h1, h2, h3]
theorem leP_tie (a b : Tie) : leP (tieD a) (tieD b) = tieLe a b := by
  show (!PySem.W.dataLt (.tuple [.int b.1, .int b.2.1, .int b.2.2]) (.tuple [.int a.1, .int a.2.1, .int a.2.2])) = _
  rw [dataLt_iii, tieLe, ← decide_not, decide_eq_decide]
  omega
theorem lows_ties (ts : List Tie) : D.lows 60 (ts.map tieD) = true := by
  rw [D.lows_iff]; intro d hd; obtain ⟨t, _, rfl⟩ := List.mem_map.mp hd; rfl
theorem sor_ties (o : Bool) (ts : List Tie) : sorD [.lst o (ts.map tieD)] = some (.lst true ((ts.mergeSort tieLe).map tieD)) := by
  cases ts with
  | nil => simp [sorD, intsD, sortI]
  | cons t r =>
    have h1 : intsD ((t :: r).map tieD) = none := rfl
    have h2 : alikeB ((t :: r).map tieD) = true := by
      unfold alikeB
      rw [List.all_eq_true]; intro d hd
      obtain ⟨a, _, rfl⟩ := List.mem_map.mp hd
      rw [List.all_eq_true]; intro e he
      obtain ⟨b, _, rfl⟩ := List.mem_map.mp he
      simp [tieD, D.py, D.pys, PySem.W.alike, PySem.W.alikeAll]
    have h3 : ((t :: r).map tieD).all tup1 = true := by
      rw [List.all_eq_true]; intro d hd
      obtain ⟨a, _, rfl⟩ := List.mem_map.mp hd
      rfl
    have h4 := lows_ties (t :: r)
    have h5 : sortP ((t :: r).map tieD) = ((t :: r).mergeSort tieLe).map tieD := (List.map_mergeSort fun a _ b _ => (leP_tie a b).symm).symm
    simp only [sorD, h1, sortDs, h2, h3, h4, h5, Bool.true_or, Bool.and_true, if_true, Option.map_some]
theorem Ties.perm {n : Int} {ts us : List Tie} (T : Ties n ts) (h : us.Perm ts) : Ties n us :=
  ⟨fun t ht => T.ok t (h.mem_iff.mp ht), (h.map _).nodup_iff.mpr T.nd, fun S h0 hS i => T.jn S h0 (fun t ht => hS t (h.mem_iff.mpr ht)) i⟩
/-- a web: m points, its ties in order -/
structure Web (m : Int) (ts : List Tie) : Prop where
  m1 : 1 ≤ m
  m2 : m ≤ 7
  T : Ties m ts
  so : ts.Pairwise fun a b => a.1 < b.1 ∨ (a.1 = b.1 ∧ a.2.1 < b.2.1)
  len : ts.length ≤ 710
theorem Web.of_ties {m : Int} {ts : List Tie} (T : Ties m ts) (h1 : 1 ≤ m) (h2 : m ≤ 7) (hl : ts.length ≤ 710) : Web m (ts.mergeSort tieLe) := by
  have T' := T.perm (List.mergeSort_perm ts tieLe)
  refine ⟨h1, h2, T', ?_, by rw [List.length_mergeSort]; exact hl⟩
  have s : (ts.mergeSort tieLe).Pairwise fun a b => tieLe a b = true := List.pairwise_mergeSort (fun a b c => by simp only [tieLe, decide_eq_true_eq]; omega) (fun a b => by simp only [tieLe, Bool.or_eq_true, decide_eq_true_eq]; omega) ts
  have nd := T'.nd
  unfold List.Nodup at nd
  rw [List.pairwise_map] at nd
  refine (s.and nd).imp ?_
  rintro a b ⟨h, hn⟩
  simp only [tieLe, decide_eq_true_eq] at h
  have : ¬ (a.1 = b.1 ∧ a.2.1 = b.2.1) := fun ⟨x, y⟩ => hn (by rw [x, y])
  omega
def webD (o : Bool) (m : Int) (ts : List Tie) : D := .tup [.str "web", .int m, .lst o (ts.map tieD)]
theorem frees_ties (ts : List Tie) : D.frees (ts.map tieD) = true := by
  rw [D.frees_iff]; intro d hd; obtain ⟨t, _, rfl⟩ := List.mem_map.mp hd; rfl
theorem shares_ties (ts : List Tie) : D.shares (ts.map tieD) = ts.map tieD := D.shares_of_frees _ (frees_ties ts)
def pairD (p : Int × Int) : D := .tup [.int p.1, .int p.2]
/-- the points found so far; ps: the pairs that were gone through for the point here -/
structure RI (m here : Int) (qs ps : List (Int × Int)) (fd lt : List Int) : Prop where
  nd : fd.Nodup
  ln : lt.Nodup
  lo : ∀ x ∈ fd, 0 ≤ x ∧ x < m
  z : 0 ∈ fd
  sub : ∀ x ∈ lt, x ∈ fd
  hm : here ∈ fd
  cl : ∀ x ∈ fd, x ∉ lt → x ≠ here → ∀ p ∈ qs, (p.1 = x → p.2 ∈ fd) ∧ (p.2 = x → p.1 ∈ fd)
  hr : ∀ p ∈ ps, (p.1 = here → p.2 ∈ fd) ∧ (p.2 = here → p.1 ∈ fd)
def stp (here : Int) (nf : Int × Int) (fl : List Int × List Int) : List Int × List Int := if nf.1 = here ∧ nf.2 ∉ fl.1 then (fl.1 ++ [nf.2], fl.2 ++ [nf.2]) else fl
theorem RI.go {m here : Int} {qs ps : List (Int × Int)} {fl : List Int × List Int} (r : RI m here qs ps fl.1 fl.2) {nf : Int × Int} (h0 : 0 ≤ nf.2) (h1 : nf.2 < m) :
    RI m here qs ps (stp here nf fl).1 (stp here nf fl).2 ∧ (nf.1 = here → nf.2 ∈ (stp here nf fl).1) ∧ (stp here nf fl).1.length + fl.2.length = (stp here nf fl).2.length + fl.1.length ∧ fl.1.length ≤ (stp here nf fl).1.length ∧ (∀ x ∈ fl.1, x ∈ (stp here nf fl).1) := by
  unfold stp
  by_cases h : nf.1 = here ∧ nf.2 ∉ fl.1
  · rw [if_pos h]
    obtain ⟨_, hn⟩ := h
    have hn2 : nf.2 ∉ fl.2 := fun q => hn (r.sub _ q)
    refine ⟨⟨?_, ?_, ?_, ?_, ?_, ?_, ?_, ?_⟩, ?_, ?_, ?_, ?_⟩
    · rw [List.nodup_append]; exact ⟨r.nd, by simp, fun a ha b hb e => by simp at hb; subst hb; subst e; exact hn ha⟩
    · rw [List.nodup_append]; exact ⟨r.ln, by simp, fun a ha b hb e => by simp at hb; subst hb; subst e; exact hn2 ha⟩
    · intro x hx; rcases List.mem_append.mp hx with hx | hx
      · exact r.lo x hx
      · simp at hx; subst hx; exact ⟨h0, h1⟩
    · simp [r.z]
    · intro x hx; rcases List.mem_append.mp hx with hx | hx
      · exact List.mem_append_left _ (r.sub x hx)
      · exact List.mem_append_right _ hx
    · simp [r.hm]
    · intro x hx hl hh p hp
      rw [List.mem_append] at hl
      rcases List.mem_append.mp hx with hx | hx
      · have := r.cl x hx (fun q => hl (.inl q)) hh p hp
        exact ⟨fun e => List.mem_append_left _ (this.1 e), fun e => List.mem_append_left _ (this.2 e)⟩
      · exact absurd (.inr hx) hl
    · intro p hp
      have := r.hr p hp
      exact ⟨fun e => List.mem_append_left _ (this.1 e), fun e => List.mem_append_left _ (this.2 e)⟩
    · intro _; simp
    · simp; omega
    · simp
    · intro x hx; exact List.mem_append_left _ hx
  · rw [if_neg h]
    exact ⟨r, fun e => Classical.byContradiction fun q => h ⟨e, q⟩, by omega, by omega, fun x hx => hx⟩
def bodyR : M Fl := ifS (andB (tst (binI eqE (gP 7) (gP 4))) (tst (binI ninD (gP 8) (gP 2)))) (par2 2 3 (argsC (dspL (argsS (gC 2) (argsC (gS 8) args0))) (argsC (dspL (argsS (gC 3) (argsC (gS 8) args0))) args0))) skp
theorem r_step {x0 x1 x5 x6 : Option D} {μ : Cells} {fd lt : List Int} {here near far : Int} (hf : fd.length ≤ 1000) (hl : lt.length ≤ 1000) :
    bodyR ⟨[x0, x1, some (.lst true (fd.map .int)), some (.lst true (lt.map .int)), some (.int here), x5, x6, some (.int near), some (.int far)], μ⟩ =
      some (.ok .nx, ⟨[x0, x1, some (.lst true ((stp here (near, far) (fd, lt)).1.map .int)), some (.lst true ((stp here (near, far) (fd, lt)).2.map .int)), some (.int here), x5, x6, some (.int near), some (.int far)], μ⟩) := by
  have h1 : fd.length ≤ 16777215 := by omega
  have h2 : lt.length ≤ 16777215 := by omega
  by_cases hn : near = here
  · by_cases hm : far ∈ fd
    · simp [bodyR, stp, hn, hm, nin_ints, frees_ints]
    · simp [bodyR, stp, hn, hm, nin_ints, frees_ints, vals_append, vals?, h1, h2, sizeLine_eq, shares_ints]
  · simp [bodyR, stp, hn, nin_ints]
def bodyP : M Fl := forS (itS (dspT (argsC (dspT (argsC (gS 5) (argsC (gS 6) args0))) (argsC (dspT (argsC (gS 6) (argsC (gS 5) args0))) args0)))) (toT 2 (tgsC (toN 7) (tgsC (toN 8) tgs0))) bodyR
theorem stp_len (here : Int) (nf : Int × Int) (fl : List Int × List Int) : (stp here nf fl).1.length ≤ fl.1.length + 1 ∧ (stp here nf fl).2.length ≤ fl.2.length + 1 := by
  unfold stp; split <;> simp
theorem r_pair {x0 x1 o7 o8 : Option D} {μ : Cells} {fd lt : List Int} {here a b : Int} (hf : fd.length ≤ 900) (hl : lt.length ≤ 900) :
    bodyP ⟨[x0, x1, some (.lst true (fd.map .int)), some (.lst true (lt.map .int)), some (.int here), some (.int a), some (.int b), o7, o8], μ⟩ =
      some (.ok .nx, ⟨[x0, x1, some (.lst true ((stp here (b, a) (stp here (a, b) (fd, lt))).1.map .int)), some (.lst true ((stp here (b, a) (stp here (a, b) (fd, lt))).2.map .int)), some (.int here), some (.int a), some (.int b), some (.int b), some (.int a)], μ⟩) := by
  obtain ⟨h1, h2⟩ := stp_len here (a, b) (fd, lt)
  have e1 := r_step (x0 := x0) (x1 := x1) (x5 := some (.int a)) (x6 := some (.int b)) (μ := μ) (fd := fd) (lt := lt) (here := here) (near := a) (far := b) (by omega) (by omega)
  generalize stp here (a, b) (fd, lt) = z at h1 h2 e1 ⊢
  obtain ⟨z1, z2⟩ := z
  simp only at h1 h2 e1
  have e2 := r_step (x0 := x0) (x1 := x1) (x5 := some (.int a)) (x6 := some (.int b)) (μ := μ) (fd := z1) (lt := z2) (here := here) (near := b) (far := a) (by omega) (by omega)
  simp [bodyP, forL, e1, e2, sizeLine_eq]
theorem nd_len {m : Int} {fd : List Int} (hm : m ≤ 7) (h0 : 0 ≤ m) (nd : fd.Nodup) (lo : ∀ x ∈ fd, 0 ≤ x ∧ x < m) : fd.length ≤ 7 := by
  have := sub_len nd (k := ups m) fun x hx => ups_mem.mpr (lo x hx)
  have := ups_len h0
  omega
theorem r_for {x0 x1 o5 o6 o7 o8 : Option D} {μ : Cells} {m here : Int} {qs : List (Int × Int)} {fd lt : List Int} (hm : m ≤ 7) (hm0 : 0 ≤ m) (hq : ∀ p ∈ qs, 0 ≤ p.1 ∧ p.1 < m ∧ 0 ≤ p.2 ∧ p.2 < m) (r : RI m here qs [] fd lt) :
    ∃ (fd' lt' : List Int) (o5' o6' o7' o8' : Option D), RI m here qs qs fd' lt' ∧ fd'.length + lt.length = lt'.length + fd.length ∧ fd.length ≤ fd'.length ∧
      forL (toT 2 (tgsC (toN 5) (tgsC (toN 6) tgs0))) bodyP (qs.map pairD) ⟨[x0, x1, some (.lst true (fd.map .int)), some (.lst true (lt.map .int)), some (.int here), o5, o6, o7, o8], μ⟩ =
        some (.ok .nx, ⟨[x0, x1, some (.lst true (fd'.map .int)), some (.lst true (lt'.map .int)), some (.int here), o5', o6', o7', o8'], μ⟩) := by
  obtain ⟨s', h1, fd', lt', o5', o6', o7', o8', rfl, r', l1, l2⟩ := forL_run (f := toT 2 (tgsC (toN 5) (tgsC (toN 6) tgs0))) (b := bodyP)
    (fun i s => ∃ (fd' lt' : List Int) (o5 o6 o7 o8 : Option D), s = ⟨[x0, x1, some (.lst true (fd'.map .int)), some (.lst true (lt'.map .int)), some (.int here), o5, o6, o7, o8], μ⟩ ∧ RI m here qs (qs.take i) fd' lt' ∧ fd'.length + lt.length = lt'.length + fd.length ∧ fd.length ≤ fd'.length)
    (ds := qs.map pairD) (k := 0) (s := ⟨[x0, x1, some (.lst true (fd.map .int)), some (.lst true (lt.map .int)), some (.int here), o5, o6, o7, o8], μ⟩)
    ⟨fd, lt, o5, o6, o7, o8, rfl, by simpa using r, by omega, by omega⟩ (by
      rintro i d s hd ⟨f1, l1, o5, o6, o7, o8, rfl, r1, c1, c2⟩
      rw [List.getElem?_map, Option.map_eq_some_iff] at hd
      obtain ⟨p, hp, rfl⟩ := hd
      simp only [Nat.zero_add] at r1 ⊢
      have hb := hq p (List.mem_of_getElem? hp)
      have hfl := nd_len hm hm0 r1.nd r1.lo
      have hll := nd_len hm hm0 r1.ln fun x hx => r1.lo x (r1.sub x hx)
      obtain ⟨a, b⟩ := p
      simp only at hb
      obtain ⟨q1, q2, q3, q4, q5⟩ := RI.go (fl := (f1, l1)) r1 (nf := (a, b)) hb.2.2.1 hb.2.2.2
      obtain ⟨p1, p2, p3, p4, p5⟩ := RI.go (fl := stp here (a, b) (f1, l1)) q1 (nf := (b, a)) hb.1 hb.2.1
      have e := r_pair (x0 := x0) (x1 := x1) (o7 := o7) (o8 := o8) (μ := μ) (fd := f1) (lt := l1) (here := here) (a := a) (b := b) (by omega) (by omega)
      refine ⟨⟨[x0, x1, some (.lst true (f1.map .int)), some (.lst true (l1.map .int)), some (.int here), some (.int a), some (.int b), o7, o8], μ⟩, _, rfl, .inl e, _, _, _, _, _, _, rfl, ?_, ?_, ?_⟩
      · refine { p1 with hr := fun x hx => ?_ }
        have ht : qs.take (i + 1) = qs.take i ++ [(a, b)] := by rw [List.take_add_one, hp]; rfl
        rw [ht] at hx
        rcases List.mem_append.mp hx with hx | hx
        · exact p1.hr x hx
        · have := List.mem_singleton.mp hx
          subst this
          exact ⟨fun e => p5 _ (q2 e), fun e => p2 e⟩
      · simp only at q3 p3; omega
      · simp only at q4 p4; omega)
  rw [List.length_map, Nat.zero_add, List.take_length] at r'
  exact ⟨fd', lt', o5', o6', o7', o8', r', l1, l2, h1⟩
structure R0 (m : Int) (qs : List (Int × Int)) (fd lt : List Int) : Prop where
  nd : fd.Nodup
  ln : lt.Nodup
  lo : ∀ x ∈ fd, 0 ≤ x ∧ x < m
  z : 0 ∈ fd
  sub : ∀ x ∈ lt, x ∈ fd
  cl : ∀ x ∈ fd, x ∉ lt → ∀ p ∈ qs, (p.1 = x → p.2 ∈ fd) ∧ (p.2 = x → p.1 ∈ fd)
theorem RI.out {m here : Int} {qs : List (Int × Int)} {fd lt : List Int} (r : RI m here qs qs fd lt) : R0 m qs fd lt :=
  ⟨r.nd, r.ln, r.lo, r.z, r.sub, fun x hx hl p hp => by
    by_cases h : x = here
    · subst h; exact r.hr p hp
    · exact r.cl x hx hl h p hp⟩
theorem R0.pop {m here : Int} {qs : List (Int × Int)} {fd lt : List Int} (r : R0 m qs fd (lt ++ [here])) : RI m here qs [] fd lt :=
  ⟨r.nd, (List.nodup_append.mp r.ln).1, r.lo, r.z, fun x hx => r.sub x (List.mem_append_left _ hx), r.sub here (by simp), fun x hx hl hh p hp => r.cl x hx (by simp [hl, hh]) p hp, fun p hp => nomatch hp⟩
def bodyW : M Fl := sq (asg (mtM popO 3 args0) (toN 4)) (forS (itS (gS 0)) (toT 2 (tgsC (toN 5) (tgsC (toN 6) tgs0))) bodyP)
theorem frees_pairs (qs : List (Int × Int)) : D.frees (qs.map pairD) = true := by
  rw [D.frees_iff]; intro d hd; obtain ⟨t, _, rfl⟩ := List.mem_map.mp hd; rfl
theorem shares_pairs (qs : List (Int × Int)) : D.shares (qs.map pairD) = qs.map pairD := D.shares_of_frees _ (frees_pairs qs)
theorem r_turn {x1 o4 o5 o6 o7 o8 : Option D} {o : Bool} {μ : Cells} {m here : Int} {qs : List (Int × Int)} {fd lt : List Int} (hm : m ≤ 7) (hm0 : 0 ≤ m) (hq : ∀ p ∈ qs, 0 ≤ p.1 ∧ p.1 < m ∧ 0 ≤ p.2 ∧ p.2 < m) (r : R0 m qs fd (lt ++ [here])) :
    ∃ (fd' lt' : List Int) (o4' o5' o6' o7' o8' : Option D), R0 m qs fd' lt' ∧ fd'.length + lt.length = lt'.length + fd.length ∧ fd.length ≤ fd'.length ∧
      bodyW ⟨[some (.lst o (qs.map pairD)), x1, some (.lst true (fd.map .int)), some (.lst true ((lt ++ [here]).map .int)), o4, o5, o6, o7, o8], μ⟩ =
        some (.ok .nx, ⟨[some (.lst false (qs.map pairD)), x1, some (.lst true (fd'.map .int)), some (.lst true (lt'.map .int)), o4', o5', o6', o7', o8'], μ⟩) := by
  obtain ⟨fd', lt', o5', o6', o7', o8', r', l1, l2, e⟩ := r_for (x0 := some (.lst false (qs.map pairD))) (x1 := x1) (o5 := o5) (o6 := o6) (o7 := o7) (o8 := o8) (μ := μ) hm hm0 hq r.pop
  refine ⟨fd', lt', some (.int here), o5', o6', o7', o8', r'.out, l1, l2, ?_⟩
  simp [bodyW, mtM, shares_pairs, frees_pairs, e]
theorem reached_spec {o : Bool} {μ : Cells} {m : Int} {qs : List (Int × Int)} (hm : m ≤ 7) (hm0 : 1 ≤ m) (hq : ∀ p ∈ qs, 0 ≤ p.1 ∧ p.1 < m ∧ 0 ≤ p.2 ∧ p.2 < m)
    (jn : ∀ S : Int → Prop, S 0 → (∀ p ∈ qs, S p.1 ↔ S p.2) → ∀ i, 0 ≤ i → i < m → S i) :
    ∃ ns : List Int, F_reached_from [.lst o (qs.map pairD), .int 0] μ = some (.ok (.lst true (ns.map .int)), μ) ∧ (ns.length : Int) = m := by
  obtain ⟨k, s0, s', ⟨o1, fd, lt, o4, o5, o6, o7, o8, rfl, r, _⟩, hc, hw⟩ := whl_run (c := tst (binI neE (gP 3) (dspL args0))) (b := bodyW)
    (fun k s => ∃ (o : Bool) (fd lt : List Int) (o4 o5 o6 o7 o8 : Option D), s = ⟨[some (.lst o (qs.map pairD)), some (.int 0), some (.lst true (fd.map .int)), some (.lst true (lt.map .int)), o4, o5, o6, o7, o8], μ⟩ ∧ R0 m qs fd lt ∧ k + 2 * fd.length = 14 + lt.length)
    (n := fuel) (m := 13) (s := ⟨[some (.lst o (qs.map pairD)), some (.int 0), some (.lst true ([0].map .int)), some (.lst true ([0].map .int)), none, none, none, none, none], μ⟩) (by unfold fuel; omega)
    ⟨o, [0], [0], none, none, none, none, none, rfl, ⟨by simp, by simp, fun x hx => by simp at hx; omega, by simp, fun x hx => hx, fun x hx hl => absurd hx hl⟩, rfl⟩ (by
      rintro k s ⟨o, fd, lt, o4, o5, o6, o7, o8, rfl, r, hk⟩
      refine ⟨!lt.isEmpty, ⟨[some (.lst o (qs.map pairD)), some (.int 0), some (.lst true (fd.map .int)), some (.lst true (lt.map .int)), o4, o5, o6, o7, o8], μ⟩, by simp [ne_nil_ints, frees_ints, sizeLine_eq], ?_⟩
      rcases List.eq_nil_or_concat lt with rfl | ⟨l, here, rfl⟩
      · left; rfl
      · right
        rw [List.concat_eq_append] at r hk ⊢
        obtain ⟨fd', lt', o4', o5', o6', o7', o8', r', l1, l2, e⟩ := r_turn (x1 := some (.int 0)) (o4 := o4) (o5 := o5) (o6 := o6) (o7 := o7) (o8 := o8) (o := o) (μ := μ) hm (by omega) hq r
        have hf := nd_len hm (by omega) r'.nd r'.lo
        rw [List.length_append, List.length_singleton] at hk
        refine ⟨by cases l <;> rfl, _, 14 + lt'.length - 2 * fd'.length, .inl e, by omega, false, fd', lt', o4', o5', o6', o7', o8', rfl, r', by omega⟩)
  have hl : lt = [] := by
    have e : (tst (binI neE (gP 3) (dspL args0))) ⟨[some (.lst o1 (qs.map pairD)), some (.int 0), some (.lst true (fd.map .int)), some (.lst true (lt.map .int)), o4, o5, o6, o7, o8], μ⟩ = some (.ok (!lt.isEmpty), ⟨[some (.lst o1 (qs.map pairD)), some (.int 0), some (.lst true (fd.map .int)), some (.lst true (lt.map .int)), o4, o5, o6, o7, o8], μ⟩) := by simp [ne_nil_ints, frees_ints, sizeLine_eq]
    rw [e] at hc
    cases lt with
    | nil => rfl
    | cons y l => simp at hc
  have hs : s' = ⟨[some (.lst o1 (qs.map pairD)), some (.int 0), some (.lst true (fd.map .int)), some (.lst true (lt.map .int)), o4, o5, o6, o7, o8], μ⟩ := by
    have e : (tst (binI neE (gP 3) (dspL args0))) ⟨[some (.lst o1 (qs.map pairD)), some (.int 0), some (.lst true (fd.map .int)), some (.lst true (lt.map .int)), o4, o5, o6, o7, o8], μ⟩ = some (.ok (!lt.isEmpty), ⟨[some (.lst o1 (qs.map pairD)), some (.int 0), some (.lst true (fd.map .int)), some (.lst true (lt.map .int)), o4, o5, o6, o7, o8], μ⟩) := by simp [ne_nil_ints, frees_ints, sizeLine_eq]
    rw [e] at hc
    simp only [Option.some.injEq, Prod.mk.injEq] at hc
    exact hc.2.symm
  subst hs hl
  refine ⟨sortI fd, ?_, ?_⟩
  · have hw' : whl (tst (binI neE (gP 3) (dspL args0))) (sq (asg (mtM popO 3 args0) (toN 4)) (forS (itS (gS 0)) (toT 2 (tgsC (toN 5) (tgsC (toN 6) tgs0))) (forS (itS (dspT (argsC (dspT (argsC (gS 5) (argsC (gS 6) args0))) (argsC (dspT (argsC (gS 6) (argsC (gS 5) args0))) args0)))) (toT 2 (tgsC (toN 7) (tgsC (toN 8) tgs0))) (ifS (andB (tst (binI eqE (gP 7) (gP 4))) (tst (binI ninD (gP 8) (gP 2)))) (par2 2 3 (argsC (dspL (argsS (gC 2) (argsC (gS 8) args0))) (argsC (dspL (argsS (gC 3) (argsC (gS 8) args0))) args0))) skp)))) fuel
      ⟨[some (.lst o (qs.map pairD)), some (.int 0), some (.lst true [.int 0]), some (.lst true [.int 0]), none, none, none, none, none], μ⟩ = _ := hw
    simp [F_reached_from, m_reached_from, hw', sort_ints, frees_ints, sizeLine_eq]
  · have h1 : (sortI fd).length = fd.length := by unfold sortI; simp
    rw [h1]
    have cl := fun i h0 h1 => jn (· ∈ fd) r.z (fun p hp => ⟨fun h => (r.cl _ h (by simp) p hp).1 rfl, fun h => (r.cl _ h (by simp) p hp).2 rfl⟩) i h0 h1
    have a := sub_len r.nd (k := ups m) fun x hx => ups_mem.mpr (r.lo x hx)
    have b := sub_len (ups_nd m) (k := fd) fun x hx => by
      have := ups_mem.mp hx
      exact cl x this.1 this.2
    have := ups_len (m := m) (by omega)
    omega
theorem whole_int (z : Int) (μ : Cells) : F_is_whole [.int z] μ = some (.ok (.bool true), μ) := rfl
theorem webS_share (o : Bool) (m : Int) (ts : List Tie) : (webD o m ts).share = webD false m ts := by simp [webD, shares_ties]
theorem tie_share (t : Tie) : (tieD t).share = tieD t := rfl
theorem is_tie_ok {t : Tie} {m : Int} {μ : Cells} (h0 : 0 ≤ t.1) (h1 : t.1 < t.2.1) (h2 : t.2.1 < m) (h3 : 1 ≤ t.2.2) (h4 : t.2.2 ≤ 9) : F_is_tie [tieD t, .int m] μ = some (.ok (.bool true), μ) := by
  have e := all_map (own := [2]) (f := toN 2) (e := DL.call F_is_whole (argsC (gS 2) args0)) (src := itS (gS 0)) (s := ⟨[some (tieD t), some (.int m), none], μ⟩) (s' := ⟨[some (tieD t), some (.int m), none], μ⟩) (ds := [.int t.1, .int t.2.1, .int t.2.2]) (fun _ => true) (by simp [tieD]) (by simp) rfl (by
    intro d hd
    simp only [List.mem_cons, List.not_mem_nil, or_false] at hd
    rcases hd with rfl | rfl | rfl
    · exact ⟨_, _, rfl, by simp [whole_int]; rfl, by simp [wipeE]⟩
    · exact ⟨_, _, rfl, by simp [whole_int]; rfl, by simp [wipeE]⟩
    · exact ⟨_, _, rfl, by simp [whole_int]; rfl, by simp [wipeE]⟩)
  simp only [tieD] at e
  simp [F_is_tie, m_is_tie, tieD, ↓e, h0, h1, h2, h3, h4]
theorem cut2_3 (a b c : D) : sliceD none (some 2) (.tup [a, b, c]) = some (.tup [a, b]) := by
  simp [sliceD, cutD, HT.sIx]
theorem lt_pp (a b c d : Int) : ltD (.tup [.int a, .int b]) (.tup [.int c, .int d]) = some (.bool (decide (a < c ∨ (a = c ∧ b < d)))) := by
  simp only [ltD, intsD, Option.map_some]
  congr 2
  simp [HT.lexLt]
  by_cases h1 : a < c <;> by_cases h2 : a = c <;> by_cases h3 : b < d <;> simp [h1, h2, h3] <;> omega
theorem ord_ok {μ : Cells} {o0' o2 : Option D} {m : Int} {ts : List Tie} (w : Web m ts) :
    cliI allD (argsC (comp [3] (it2 (argsC (kst (.int 1)) (argsC (cliI lenD (argsC (gP 1) args0)) args0))) (toN 3) tst1 (binI ltD (slM (ixM (gP 1) (binC subD (gC 3) (kst (.int 1)))) o0 (o1 (kst (.int 2)))) (slM (ixM (gP 1) (gP 3)) o0 (o1 (kst (.int 2)))))) args0)
      ⟨[o0', some (.lst false (ts.map tieD)), o2, none], μ⟩ = some (.ok (.val (.bool true)), ⟨[o0', some (.lst false (ts.map tieD)), o2, none], μ⟩) := by
  have hl := w.len
  have hi : it2 (argsC (kst (.int 1)) (argsC (cliI lenD (argsC (gP 1) args0)) args0)) ⟨[o0', some (.lst false (ts.map tieD)), o2, none], μ⟩ = some (.ok (.fix (rng 1 ((ts.length : Int) - 1).toNat)), ⟨[o0', some (.lst false (ts.map tieD)), o2, none], μ⟩) := by
    have s1 : small62 (ts.length : Int) = true := small62_iff.mpr ⟨by omega, by omega⟩
    have s2 : small62 1 = true := small62_iff.mpr ⟨by omega, by omega⟩
    simp only [it2, bnd_ap]
    simp [frees_ties, s1, s2]
  have e := all_map (own := [3]) (f := toN 3) (e := binI ltD (slM (ixM (gP 1) (binC subD (gC 3) (kst (.int 1)))) o0 (o1 (kst (.int 2)))) (slM (ixM (gP 1) (gP 3)) o0 (o1 (kst (.int 2))))) (fun _ => true) hi (by rw [rng_len]; omega) rfl (by
    intro d hd
    obtain ⟨i, hi, rfl⟩ := rng_mem hd
    have l1 : i < ts.length := by omega
    have l2 : i + 1 < ts.length := by omega
    have a1 : atI (ts.map tieD) ((1 : Int) + i - 1) = some (tieD ts[i]) := by
      have := atI_of (xs := ts.map tieD) (k := i) (x := tieD ts[i]) (by simp [l1])
      rw [← this]; congr 1; omega
    have a2 : atI (ts.map tieD) ((1 : Int) + i) = some (tieD ts[i + 1]) := by
      have := atI_of (xs := ts.map tieD) (k := i + 1) (x := tieD ts[i + 1]) (by simp [l2])
      rw [← this]; congr 1; push_cast; omega
    have hs := List.pairwise_iff_getElem.mp w.so i (i + 1) l1 l2 (by omega)
    have f1 : ∀ t : Tie, (tieD t).free = true := fun _ => rfl
    have hs' : decide (ts[i].1 < ts[i + 1].1 ∨ (ts[i].1 = ts[i + 1].1 ∧ ts[i].2.1 < ts[i + 1].2.1)) = true := by simpa using hs
    exact ⟨_, ⟨[o0', some (.lst false (ts.map tieD)), o2, some (.int (1 + (i : Int)))], μ⟩, rfl, by simp [a1, a2, tieD, cut2_3, lt_pp, hs', -decide_eq_true_eq, -Bool.decide_or, -Bool.decide_and], by simp [wipeE]⟩)
  rw [e]
  simp
def prT (t : Tie) : Int × Int := (t.1, t.2.1)
theorem hang_ok {o : Bool} {μ : Cells} {m : Int} {ts : List Tie} (w : Web m ts) : F_hang_together [.int m, .lst o ((ts.map prT).map pairD)] μ = some (.ok (.bool true), μ) := by
  obtain ⟨ns, h1, h2⟩ := reached_spec (o := false) (μ := μ) (m := m) (qs := ts.map prT) w.m2 w.m1 (fun p hp => by
    obtain ⟨t, ht, rfl⟩ := List.mem_map.mp hp
    obtain ⟨a, b, c, _⟩ := w.T.ok t ht
    simp only [prT]; omega) (fun S h0 hS => w.T.jn S h0 fun t ht => hS (prT t) (List.mem_map_of_mem ht))
  have h3 := shares_pairs (ts.map prT)
  generalize hq : (ts.map prT).map pairD = q at h1 h3 ⊢
  simp [F_hang_together, m_hang_together, h1, h2, h3]
theorem is_web_ok {μ : Cells} {m : Int} {ts : List Tie} (w : Web m ts) : F_is_web_by [webD false m ts] μ = some (.ok (.bool true), μ) := by
  have hl := w.len
  have m1 := w.m1
  have m2 := w.m2
  have e1 := all_map (own := [2]) (f := toN 2) (e := DL.call F_is_tie (argsC (gS 2) (argsC (ixM (gP 0) (kst (.int 1))) args0))) (src := itS (gS 1)) (s := ⟨[some (webD false m ts), some (.lst false (ts.map tieD)), none, none], μ⟩) (s' := ⟨[some (webD false m ts), some (.lst false (ts.map tieD)), none, none], μ⟩) (ds := ts.map tieD) (fun _ => true) (by simp [shares_ties]) (by simp; omega) rfl (by
    intro d hd
    obtain ⟨t, ht, rfl⟩ := List.mem_map.mp hd
    obtain ⟨a, b, c, d, e⟩ := w.T.ok t ht
    have h := is_tie_ok (t := t) (m := m) (μ := μ) a b c d (by omega)
    exact ⟨_, ⟨[some (webD false m ts), some (.lst false (ts.map tieD)), some (tieD t), none], μ⟩, rfl, by simp [webD, frees_ties, tie_share, h], by simp [wipeE]⟩)
  have e2 := ord_ok (μ := μ) (o0' := some (webD false m ts)) (o2 := none) w
  have e3 := comp_map (own := [2]) (f := toN 2) (e := slM (gC 2) o0 (o1 (kst (.int 2)))) (src := itS (gS 1)) (s := ⟨[some (webD false m ts), some (.lst false (ts.map tieD)), none, none], μ⟩) (s' := ⟨[some (webD false m ts), some (.lst false (ts.map tieD)), none, none], μ⟩) (ds := ts.map tieD) (fun d => match d with | .tup (a :: b :: _) => .tup [a, b] | _ => .none) (by simp [shares_ties]) (by simp; omega) rfl (by
    intro d hd
    obtain ⟨t, ht, rfl⟩ := List.mem_map.mp hd
    exact ⟨_, ⟨[some (webD false m ts), some (.lst false (ts.map tieD)), some (tieD t), none], μ⟩, rfl, by simp [tieD, cut2_3], by simp [wipeE]⟩)
  have e4 : (ts.map tieD).map (fun d => match d with | .tup (a :: b :: _) => D.tup [a, b] | _ => .none) = (ts.map prT).map pairD := by
    rw [List.map_map, List.map_map]; rfl
  rw [e4] at e3
  have e5 := fun o => hang_ok (o := o) (μ := μ) w
  have e6 : (ts.map tieD).all (fun _ => true) = true := by simp
  rw [e6] at e1
  simp only [webD] at e1 e2 e3 ⊢
  generalize (ts.map prT).map pairD = q at e3 e5
  simp [F_is_web_by, m_is_web_by, frees_ties, shares_ties, ↓e1, ↓e2, ↓e3, e5, whole_int, m1, m2]
theorem check_web_ok {μ : Cells} {m : Int} {ts : List Tie} (w : Web m ts) : F_check_web [webD false m ts] μ = some (.ok .none, μ) := by
  simp [F_check_web, m_check_web, webS_share, is_web_ok w]
theorem sq_run {m n : M Fl} {s s1 : Sg} (h : m s = some (.ok .nx, s1)) : sq m n s = n s1 := by rw [sq_ap, h]
theorem it1_of {m : M (List DL.It)} {s s' : Sg} {l : List DL.It} {j : Int} (h : m s = some (.ok l, s')) (ha : atAll s' l = some [.int j]) (h1 : 0 ≤ j ∧ j ≤ 16777216) : it1 m s = some (.ok (.fix (rng 0 j.toNat)), s') := by
  have s2 : small62 j = true := small62_iff.mpr ⟨by omega, by omega⟩
  simp only [it1, bnd_ap, h, ha, s2, if_true]
def GOk (n : Nat) (L : List D) : Prop := ∃ a s c : Int, L = [.int a, .int s, .int c] ∧ 0 ≤ a ∧ 0 ≤ s ∧ s < 2147483647 ∧ 0 ≤ c ∧ c ≤ n
theorem GOk.mono {n m : Nat} {L : List D} (h : GOk n L) (k : n ≤ m) : GOk m L := by
  obtain ⟨a, s, c, h1, h2, h3, h4, h5, h6⟩ := h
  exact ⟨a, s, c, h1, h2, h3, h4, h5, by omega⟩
theorem bitsM_ap (m : M DL.It) (s : Sg) : bitsM m s = bnd m (fun i s => match i.at s.ρ with
  | some (.int k) => some (.ok (.val (.int (Builtin.Int.intBits k))), s)
  | _ => none) s := rfl
theorem hash_ok {s c : Int} {μ : Cells} (s0 : 0 ≤ s) (s1 : s < 2147483647) (c0 : 0 ≤ c) (c1 : c < 9223372036854775808) : ∃ z, F__law_hash [.int s, .int c] μ = some (.ok (.int z), μ) ∧ 0 ≤ z := by
  have h1 : -18446744073709551616 < c ∧ c < 18446744073709551616 := by omega
  have h2 : -18446744073709551616 < s ∧ s < 18446744073709551616 := by omega
  obtain ⟨y, hy⟩ : ∃ y, y = (s * 1220147 + 16777903 * c * c + 223 * c + 97).fmod 2147483629 := ⟨_, rfl⟩
  have y0 : 0 ≤ y ∧ y < 2147483629 := by rw [hy]; exact ⟨Int.fmod_nonneg_of_pos _ (by decide), Int.fmod_lt_of_pos _ (by decide)⟩
  have y1 : -18446744073709551616 < y ∧ y < 18446744073709551616 := by omega
  obtain ⟨x, hx⟩ : ∃ x, x = (y * y + 69019 * c + 32416187).fmod 2147483587 := ⟨_, rfl⟩
  refine ⟨(x * 48271).fmod 2147483647, ?_, Int.fmod_nonneg_of_pos _ (by decide)⟩
  simp [F__law_hash, m__law_hash, mulD, addD, h1, h2, ← hy, y1, ← hx]
theorem bits_le {b : Int} (b1 : 1 ≤ b) (b2 : b ≤ 1000) : ((1 : Int) + ((Builtin.Int.intBits b : Nat) : Int).fdiv 30) ≤ 100 ∧ 0 ≤ (1 : Int) + ((Builtin.Int.intBits b : Nat) : Int).fdiv 30 := by
  have h0 : Builtin.Int.intBits b ≤ 1001 := by
    unfold Builtin.Int.intBits
    split
    · omega
    · have := Nat.log2_le_self b.natAbs
      omega
  generalize Builtin.Int.intBits b = q at h0
  rw [Int.fdiv_eq_ediv_of_nonneg _ (by omega)]
  omega
theorem set_same {α : Type} {l : List α} {k : Nat} {x : α} (h : l[k]? = some x) : l.set k x = l := by
  apply List.ext_getElem?
  intro i
  by_cases e : k = i
  · subst e; rw [List.getElem?_set_self (List.getElem?_eq_some_iff.mp h).1, h]
  · rw [List.getElem?_set_ne e]
def rndB : M Fl := (sq (asg (binC addD (ixM (gP 0) (kst (.int 2))) (kst (.int 1))) (toX 0 (kst (.int 2))))
    (asg (binC addD (binC mulD (gC 2) (kst (.int 2147483587))) (DL.call F__law_hash (argsC (ixM (gP 0) (kst (.int 1))) (argsC (ixM (gP 0) (kst (.int 2))) args0)))) (toN 2)))
theorem at3 (p q r : D) : atI [p, q, r] 0 = some p ∧ atI [p, q, r] 1 = some q ∧ atI [p, q, r] 2 = some r := ⟨rfl, rfl, rfl⟩
theorem ix3 : ixN 3 0 = some 0 ∧ ixN 3 1 = some 1 ∧ ixN 3 2 = some 2 := by decide
theorem rnd_spec {n k : Nat} {μ : Cells} {L : List D} {b : Int} (hk : μ[k]? = some L) (h : GOk n L) (b1 : 1 ≤ b) (b2 : b ≤ 1000) (hn : n < 1000000000) :
    ∃ r L', F__law_random [.cell k, .int b] μ = some (.ok (.int r), μ.set k L') ∧ 0 ≤ r ∧ r < b ∧ GOk (n + 100) L' := by
  obtain ⟨a, s, c, rfl, a0, s0, s1, c0, c1⟩ := h
  have hkl := (List.getElem?_eq_some_iff.mp hk).1
  have hb : b ≠ 0 := by omega
  have hbn : b.natAbs < 1073741824 := by omega
  obtain ⟨i0, i1, i2⟩ := ix3
  by_cases ha : 0 < a
  · refine ⟨a.fmod b, [.int (a.fdiv b), .int s, .int c], ?_, Int.fmod_nonneg_of_pos _ (by omega), Int.fmod_lt_of_pos _ (by omega), a.fdiv b, s, c, rfl, ?_, s0, s1, c0, by omega⟩
    · simp [F__law_random, m__law_random, hk, at3, ha, hb, hbn, i0]
    · rw [Int.fdiv_eq_ediv_of_nonneg _ (by omega)]; exact Int.ediv_nonneg (by omega) (by omega)
  · have hbits := bits_le b1 b2
    generalize hj : (1 : Int) + ((Builtin.Int.intBits b : Nat) : Int).fdiv 30 = j at hbits
    have hi : it1 (argsC (binC addD (kst (.int 1)) (binC divD (bitsM (gP 1)) (kst (.int 30)))) args0) ⟨[some (.cell k), some (.int b), some (.int 0), none], μ⟩ = some (.ok (.fix (rng 0 j.toNat)), ⟨[some (.cell k), some (.int b), some (.int 0), none], μ⟩) :=
      it1_of (l := [.val (.int j)]) (by simp [bitsM_ap, divD, addD, hj]) rfl ⟨by omega, by omega⟩
    obtain ⟨s', e, c', o2, o3, rfl, c0', c1'⟩ := forL_run (f := toN 3) (b := rndB)
      (fun i st => ∃ (c' : Int) (d : Int) (o3 : Option D), st = ⟨[some (.cell k), some (.int b), some (.int d), o3], μ.set k [.int a, .int s, .int c']⟩ ∧ 0 ≤ c' ∧ c' ≤ n + i)
      (ds := rng 0 j.toNat) (k := 0) (s := ⟨[some (.cell k), some (.int b), some (.int 0), none], μ⟩) ⟨c, 0, none, by rw [set_same hk], c0, by omega⟩ (by
        rintro i d st hd ⟨c', dr, o3, rfl, h0, h1⟩
        obtain ⟨hi, rfl⟩ := rng_get hd
        have hi' : (i : Int) < 100 := by omega
        simp only [Nat.zero_add] at h1 ⊢
        obtain ⟨z, hz, z0⟩ := hash_ok (μ := μ.set k [.int a, .int s, .int (c' + 1)]) s0 s1 (c := c' + 1) (by omega) (by omega)
        have g1 : (μ.set k [.int a, .int s, .int c'])[k]? = some [.int a, .int s, .int c'] := List.getElem?_set_self hkl
        have g2 : (μ.set k [.int a, .int s, .int (c' + 1)])[k]? = some [.int a, .int s, .int (c' + 1)] := List.getElem?_set_self hkl
        refine ⟨_, _, rfl, .inl ?_, c' + 1, dr * 2147483587 + z, some (.int (0 + (i : Int))), rfl, by omega, by omega⟩
        simp [rndB, g1, at3, addD, i2, List.set_set, g2, hz, mulD])
    rw [rng_len] at c1'
    simp only [Nat.zero_add] at c1'
    have e' := (forS_fix (f := toN 3) (b := rndB) hi).trans e
    refine ⟨o2.fmod b, [.int a, .int s, .int c'], ?_, Int.fmod_nonneg_of_pos _ (by omega), Int.fmod_lt_of_pos _ (by omega), a, s, c', rfl, a0, s0, s1, c0', by omega⟩
    have hm : m__law_random = (sq (ifS (tst (binI gtD (ixM (gP 0) (kst (.int 0))) (kst (.int 0)))) (sq (asg (binC modD (cliI intD (argsC (ixM (gP 0) (kst (.int 0))) args0)) (gC 1)) (toN 2))
    (sq (asg (binC divD (ixM (gP 0) (kst (.int 0))) (gC 1)) (toX 0 (kst (.int 0))))
    (rtn (gM 2)))) skp)
    (sq (asg (kst (.int 0)) (toN 2))
    (sq (forS (it1 (argsC (binC addD (kst (.int 1)) (binC divD (bitsM (gP 1)) (kst (.int 30)))) args0)) (toN 3) rndB)
    (rtn (binC modD (cliI intD (argsC (gP 2) args0)) (gC 1)))))) := rfl
    have h1 : (ifS (tst (binI gtD (ixM (gP 0) (kst (.int 0))) (kst (.int 0)))) (sq (asg (binC modD (cliI intD (argsC (ixM (gP 0) (kst (.int 0))) args0)) (gC 1)) (toN 2))
    (sq (asg (binC divD (ixM (gP 0) (kst (.int 0))) (gC 1)) (toX 0 (kst (.int 0))))
    (rtn (gM 2)))) skp) ⟨[some (.cell k), some (.int b), none, none], μ⟩ = some (.ok .nx, ⟨[some (.cell k), some (.int b), none, none], μ⟩) := by
      simp [hk, at3, ha]
    have h2 : asg (kst (.int 0)) (toN 2) ⟨[some (.cell k), some (.int b), none, none], μ⟩ = some (.ok .nx, ⟨[some (.cell k), some (.int b), some (.int 0), none], μ⟩) := by simp
    have h3 : startE 4 [.cell k, .int b] = [some (.cell k), some (.int b), none, none] := rfl
    rw [F__law_random, hm, runB, h3, sq_run h1, sq_run h2, sq_run e']
    simp [hb]
theorem eqv_ints : ∀ a b : List Int, PyData.eqvAll (D.pys (a.map D.int)) (D.pys (b.map D.int)) = decide (a = b)
  | [], [] => rfl
  | [], _ :: _ => rfl
  | _ :: _, [] => rfl
  | x :: a, y :: b => by
    simp only [List.map_cons, D.pys, D.py, PyData.eqvAll, PyData.eqv, eqv_ints a b]
    by_cases h : x = y <;> by_cases h2 : a = b <;> simp [h, h2]
theorem low_ints (n : Nat) (o : Bool) (a : List Int) : D.low (n + 1) (.lst o (a.map .int)) = true := by
  show D.lows n (a.map .int) = true
  rw [D.lows_iff]; intro d hd; obtain ⟨t, _, rfl⟩ := List.mem_map.mp hd
  cases n <;> rfl
theorem eq_ints (o o' : Bool) (a b : List Int) : eqE (.lst o (a.map .int)) (.lst o' (b.map .int)) = some (.bool (decide (a = b))) := by
  apply eqE_of
  simp only [eqD, low_ints, Bool.and_self, if_true, D.py, PyData.eqv, eqv_ints]
theorem neE_nil (o o' : Bool) (xs : List D) : neE (.lst o xs) (.lst o' []) = some (.bool (!xs.isEmpty)) := by
  cases xs with
  | nil => simp [neE, neD, D.low, D.lows, D.py, D.pys, PyData.eqv, PyData.eqvAll]
  | cons x xs =>
    unfold neE
    by_cases h : D.low 60 (.lst o (x :: xs)) = true
    · have h2 : D.low 60 (.lst o' []) = true := by simp [D.low, D.lows]
      simp [neD, h, h2, D.py, D.pys, PyData.eqv, PyData.eqvAll]
    · simp [neD, h, eqX, lenOf]
theorem cell_ok (ns : List Int) (i : Nat) (μ : Cells) : ∃ z, F__law_cell [.frz (ns.map .int), .int (i : Int)] μ = some (.ok (.int z), μ) := by
  by_cases h : i < ns.length
  · have ha : atI (ns.map D.int) (i : Int) = some (.int ns[i]) := atI_of (by rw [List.getElem?_map, List.getElem?_eq_getElem h]; rfl)
    have hl : (i : Int) < ((ns.map D.int).length : Int) := by rw [List.length_map]; omega
    refine ⟨ns[i], ?_⟩
    generalize ns.map D.int = N at ha hl ⊢
    simp [F__law_cell, m__law_cell, ha, hl]
  · have hl : ¬ (i : Int) < ((ns.map D.int).length : Int) := by rw [List.length_map]; omega
    have hc : cutD (ns.map D.int) none (some 1) = (cutD ns none (some 1)).map .int := by
      unfold cutD
      rw [List.length_map, List.map_take, List.map_drop]
    have hs := sum_ints true (cutD ns none (some 1))
    rw [← hc] at hs
    have hsh := shares_ints (cutD ns none (some 1))
    have hs0 := shares_ints ns
    rw [← hc] at hsh
    refine ⟨(cutD ns none (some 1)).sum.fmod 1000003, ?_⟩
    generalize (cutD ns none (some 1)).sum = q at hs ⊢
    clear hc
    generalize ns.map D.int = N at hl hs hs0 hsh ⊢
    simp [F__law_cell, m__law_cell, hl, sliceD, hs0, hs]
theorem generator_ok (ns : List Int) (i : Nat) (μ : Cells) : ∃ L, F__law_generator [.frz (ns.map .int), .int (i : Int)] μ = some (.ok (.lst true L), μ) ∧ GOk (1000 * i) (D.shares L) := by
  obtain ⟨z, hz⟩ := cell_ok ns i μ
  have p1 : powD (.int 10) (.int 18) = some (.int 1000000000000000000) := by kernel_rfl
  obtain ⟨A, hA⟩ : ∃ A, A = (10 : Int) ^ 60 := ⟨_, rfl⟩
  have p2 : powD (.int 10) (.int 60) = some (.int A) := by rw [hA]; kernel_rfl
  obtain ⟨B, hB, p3⟩ : ∃ B, 0 < B ∧ powD (.int A) (.int 10) = some (.int B) := ⟨(10 ^ 60) ^ 10, by decide, by rw [hA]; kernel_rfl⟩
  have hB0 : B ≠ 0 := by omega
  have hs := shares_ints ns
  clear hA
  obtain ⟨y, hy, hy0⟩ : ∃ y, maxD [.int (z - 1000000000000000000), .int 0] = some (.int y) ∧ 0 ≤ y := by
    refine ⟨if 0 > z - 1000000000000000000 then 0 else z - 1000000000000000000, rfl, ?_⟩
    split <;> omega
  refine ⟨[.int (y.fmod B), .int (z.fmod 2147483647), .int (1000 * (i : Int))], ?_, y.fmod B, z.fmod 2147483647, 1000 * i, rfl, Int.fmod_nonneg_of_pos _ hB, Int.fmod_nonneg_of_pos _ (by decide), Int.fmod_lt_of_pos _ (by decide), by omega, by omega⟩
  generalize ns.map D.int = N at hz hs ⊢
  simp [F__law_generator, m__law_generator, hs, hz, p1, p2, p3, hy, hB0, mulD]
theorem sort_is {ts us : List Tie} (h : us.Pairwise fun a b => tieLe a b = true) (p : us.Perm ts) : ts.mergeSort tieLe = us := by
  have s : (ts.mergeSort tieLe).Pairwise fun a b => tieLe a b = true := List.pairwise_mergeSort (fun a b c => by simp only [tieLe, decide_eq_true_eq]; omega) (fun a b => by simp only [tieLe, Bool.or_eq_true, decide_eq_true_eq]; omega) ts
  refine List.Perm.eq_of_pairwise (le := fun a b => tieLe a b = true) (fun a b _ _ h1 h2 => ?_) s h ((List.mergeSort_perm ts tieLe).trans p.symm)
  simp only [tieLe, decide_eq_true_eq] at h1 h2
  obtain ⟨a1, a2, a3⟩ := a
  obtain ⟨b1, b2, b3⟩ := b
  simp only at h1 h2
  have e1 : a1 = b1 := by omega
  have e2 : a2 = b2 := by omega
  have e3 : a3 = b3 := by omega
  rw [e1, e2, e3]
def nrm (t : Tie) : Tie := (if t.2.1 < t.1 then t.2.1 else t.1, if t.2.1 > t.1 then t.2.1 else t.1, t.2.2)
/-- equal pairs become one -/
def mrgS (acc : List Tie) (t : Tie) : List Tie := match acc.getLast? with
  | some u => if u.1 = t.1 ∧ u.2.1 = t.2.1 then acc.dropLast ++ [(t.1, t.2.1, u.2.2 + t.2.2)] else acc ++ [t]
  | none => [t]
def mrg (ts : List Tie) : List Tie := ts.foldl mrgS []
theorem mrgS_len (acc : List Tie) (t : Tie) : (mrgS acc t).length ≤ acc.length + 1 := by
  unfold mrgS
  split
  · split
    · simp only [List.length_append, List.length_dropLast, List.length_singleton]; omega
    · simp only [List.length_append, List.length_singleton]; omega
  · simp
theorem mrg_len : ∀ (ts acc : List Tie), (ts.foldl mrgS acc).length ≤ acc.length + ts.length
  | [], acc => by simp
  | t :: ts, acc => by
    have := mrg_len ts (mrgS acc t)
    have := mrgS_len acc t
    rw [List.foldl_cons, List.length_cons]; omega
/-- a list, one's own or not, or a cell that holds it -/
def Fw (μ : Cells) (d : D) (ds : List D) : Prop := ((∃ o, d = .lst o ds) ∨ ∃ k, d = .cell k ∧ μ[k]? = some ds) ∧ D.frees ds = true ∧ ds.length ≤ 1000
theorem comp_fw {own : List Nat} {f : Tgt} {e : M DL.It} {i : Nat} {s s' : Sg} {d : D} {ds : List D} (g : D → D) (hs : s.ρ[i]? = some (some d)) (v : Fw s.μ d ds) (hw0 : (⟨wipeE (s.ρ.set i (some d.share)) own, s.μ⟩ : Sg) = s') (hw : (⟨wipeE s'.ρ own, s'.μ⟩ : Sg) = s')
    (h : ∀ d ∈ ds, ∃ s1 s3, f d s' = some s1 ∧ e s1 = some (.ok (.val (g d)), s3) ∧ (⟨wipeE s3.ρ own, s3.μ⟩ : Sg) = s') :
    comp own (itS (gS i)) f tst1 e s = some (.ok (.val (.lst true (ds.map g))), s') := by
  obtain ⟨v1, v2, v3⟩ := v
  have st : ∀ d ∈ ds, ∃ s1 b s2, f d s' = some s1 ∧ tst1 s1 = some (.ok b, s2) ∧ ((b = false ∧ (fun d => some (g d)) d = none ∧ (⟨wipeE s2.ρ own, s2.μ⟩ : Sg) = s') ∨ (b = true ∧ ∃ y s3, (fun d => some (g d)) d = some y ∧ e s2 = some (.ok (.val y), s3) ∧ (⟨wipeE s3.ρ own, s3.μ⟩ : Sg) = s')) := fun d hd => by
    obtain ⟨s1, s3, h1, h2, h3⟩ := h d hd
    exact ⟨s1, true, s1, h1, rfl, .inr ⟨rfl, _, s3, rfl, h2, h3⟩⟩
  have hsz : ds.length ≤ sizeLine := by rw [sizeLine_eq]; omega
  have hsz2 : ds.length + 1 ≤ sizeLine := by rw [sizeLine_eq]; omega
  have hmu : s'.μ = s.μ := by rw [← hw0]
  rw [← List.filterMap_eq_map']
  rcases v1 with ⟨o, rfl⟩ | ⟨k, rfl, hk⟩
  · have hss : D.shares (D.shares ds) = ds := by rw [D.shares_of_frees _ v2, D.shares_of_frees _ v2]
    have hi : itS (gS i) s = some (.ok (.fix ds), ⟨s.ρ.set i (some (D.lst o ds).share), s.μ⟩) := by
      rw [itS_ap, bnd_ap, gS_ap, hs]
      simp only [It.sat, D.share, hss]
    rw [comp_ap, bnd_ap, hi]
    simp only [hw0, if_pos hsz, compL_pure _ st, List.nil_append]
  · have hi : itS (gS i) s = some (.ok (.dyn (ds.length + 1) fun μ i => (μ[k]?).bind (·[i]?)), ⟨s.ρ.set i (some (D.cell k).share), s.μ⟩) := by
      rw [itS_ap, bnd_ap, gS_ap, hs]
      simp only [It.sat, D.share, hk]
    rw [comp_ap, bnd_ap, hi]
    simp only [hw0, if_pos hsz2, compD_pure (it := fun μ i => (μ[k]?).bind (·[i]?)) _ (ds := ds) (fun i => by show (s'.μ[k]?).bind (·[i]?) = _; rw [hmu, hk]; rfl) st (n := ds.length + 1) (i := 0) (acc := []) (by omega) (by omega), List.nil_append, List.drop_zero]
theorem eq_pp (a b c d : Int) : eqE (.tup [.int a, .int b]) (.tup [.int c, .int d]) = some (.bool (decide (a = c ∧ b = d))) := by
  have : eqD (.tup [.int a, .int b]) (.tup [.int c, .int d]) = some (.bool (decide (a = c ∧ b = d))) := by
    simp only [eqD, D.low, D.lows, Bool.and_self, if_true, D.py, D.pys, PyData.eqv, PyData.eqvAll]
    by_cases h1 : a = c <;> by_cases h2 : b = d <;> simp [h1, h2]
  exact eqE_of this
def mrgB : M Fl := (ifS (andB (tst (binI neE (gP 2) (dspL args0))) (tst (binI eqE (slM (ixM (gP 2) (unM negD (kst (.int 1)))) o0 (o1 (kst (.int 2)))) (dspT (argsC (gS 3) (argsC (gS 4) args0)))))) (asg (dspT (argsC (gS 3) (argsC (gS 4) (argsC (binC addD (ixM (ixM (gP 2) (unM negD (kst (.int 1)))) (kst (.int 2))) (gC 5)) args0)))) (toX 2 (unM negD (kst (.int 1))))) (drp (mtM appO 2 (argsC (dspT (argsC (gS 3) (argsC (gS 4) (argsC (gS 5) args0)))) args0))))
theorem negi1 : negD (.int 1) = some (.int (-1)) := rfl
theorem atI_lst (xs : List D) (x : D) : atI (xs ++ [x]) (-1) = some x := by
  have h : ixN (xs ++ [x]).length (-1) = some xs.length := by
    unfold ixN; simp; omega
  unfold atI
  rw [h]; simp
theorem ixN_lst {α : Type} (xs : List α) (x : α) : ixN (xs ++ [x]).length (-1) = some xs.length := by
  unfold ixN; simp; omega
theorem mrgB_ok {o0 o1 : Option D} {μ : Cells} {acc : List Tie} {t : Tie} (hl : acc.length ≤ 1000) :
    mrgB ⟨[o0, o1, some (.lst true (acc.map tieD)), some (.int t.1), some (.int t.2.1), some (.int t.2.2)], μ⟩ =
      some (.ok .nx, ⟨[o0, o1, some (.lst true ((mrgS acc t).map tieD)), some (.int t.1), some (.int t.2.1), some (.int t.2.2)], μ⟩) := by
  obtain ⟨a, b, c⟩ := t
  have hne := neE_nil true true (acc.map tieD)
  rcases List.eq_nil_or_concat acc with rfl | ⟨l, u, rfl⟩
  · have hm : mrgS [] (a, b, c) = [(a, b, c)] := rfl
    rw [hm]
    have hne := neE_nil true true []
    simp only [List.isEmpty_nil, Bool.not_true] at hne
    simp [mrgB, hne, mtM, appO, tieD]
  · rw [List.concat_eq_append] at hl ⊢
    obtain ⟨x, y, z⟩ := u
    have hm : mrgS (l ++ [(x, y, z)]) (a, b, c) = if x = a ∧ y = b then l ++ [(a, b, z + c)] else l ++ [(x, y, z)] ++ [(a, b, c)] := by
      unfold mrgS
      rw [List.getLast?_append]
      simp
    rw [hm]
    have hmap : (l ++ [(x, y, z)]).map tieD = l.map tieD ++ [.tup [.int x, .int y, .int z]] := by rw [List.map_append]; rfl
    rw [hmap]
    have hne := neE_nil true true (l.map tieD ++ [.tup [.int x, .int y, .int z]])
    have hem : (l.map tieD ++ [D.tup [.int x, .int y, .int z]]).isEmpty = false := by simp
    rw [hem] at hne
    simp only [Bool.not_false] at hne
    have hat := atI_lst (l.map tieD) (.tup [.int x, .int y, .int z])
    have hix := ixN_lst (l.map tieD) (D.tup [.int x, .int y, .int z])
    have hcut := cut2_3 (.int x) (.int y) (.int z)
    have heq := eq_pp x y a b
    have hsz : (l.map tieD ++ [D.tup [.int x, .int y, .int z]]).length < 16777216 := by
      rw [List.length_append, List.length_map] at *; simp at *; omega
    have hset : (l.map tieD ++ [D.tup [.int x, .int y, .int z]]).set l.length (.tup [.int a, .int b, .int (z + c)]) = (l ++ [(a, b, z + c)]).map tieD := by
      rw [List.map_append]
      have : l.length = (l.map tieD).length := by rw [List.length_map]
      rw [this, List.set_append_right _ _ (Nat.le_refl _), Nat.sub_self]
      rfl
    rw [List.length_map] at hix
    have hfr := frees_ties l
    by_cases hc : x = a ∧ y = b
    · rw [if_pos hc, ← hset]
      have hd : decide (x = a ∧ y = b) = true := by simp [hc]
      rw [hd] at heq
      generalize l.map tieD = LD at hne hat hix hsz hfr ⊢
      generalize hQ : LD ++ [D.tup [.int x, .int y, .int z]] = Q at hne hat hix hsz ⊢
      simp [mrgB, hne, negi1, hat, hcut, heq, hix, addD]
    · rw [if_neg hc]
      have hd : decide (x = a ∧ y = b) = false := by simp [hc]
      rw [hd] at heq
      have hmap2 : (l ++ [(x, y, z)] ++ [(a, b, c)]).map tieD = (l.map tieD ++ [D.tup [.int x, .int y, .int z]]) ++ [.tup [.int a, .int b, .int c]] := by rw [List.map_append, List.map_append]; rfl
      rw [hmap2]
      generalize l.map tieD = LD at hne hat hix hsz hfr ⊢
      generalize hQ : LD ++ [D.tup [.int x, .int y, .int z]] = Q at hne hat hix hsz ⊢
      simp [mrgB, hne, negi1, hat, hcut, heq, mtM, appO, hsz]
def madeM : M Fl := (sq (asg (dspL args0) (toN 2))
    (sq (forS (itS (cliC sorD (argsC (comp [3, 4, 5] (itS (gS 1)) (toT 3 (tgsC (toN 3) (tgsC (toN 4) (tgsC (toN 5) tgs0)))) tst1 (dspT (argsC (cliI minD (argsC (gP 3) (argsC (gP 4) args0))) (argsC (cliI maxD (argsC (gP 3) (argsC (gP 4) args0))) (argsC (gS 5) args0))))) args0))) (toT 3 (tgsC (toN 3) (tgsC (toN 4) (tgsC (toN 5) tgs0)))) mrgB)
    (rtn (dspT (argsC (kst (.str "web")) (argsC (gM 0) (argsC (gM 2) args0)))))))
theorem made_ok {μ : Cells} {d : D} {m : Int} {ts : List Tie} (v : Fw μ d (ts.map tieD)) : runB 6 madeM [.int m, d] μ = some (.ok (webD true m (mrg ((ts.map nrm).mergeSort tieLe))), μ) := by
  have hl : ts.length ≤ 1000 := by have := v.2.2; rwa [List.length_map] at this
  have hc := comp_fw (own := [3, 4, 5]) (f := toT 3 (tgsC (toN 3) (tgsC (toN 4) (tgsC (toN 5) tgs0)))) (e := dspT (argsC (cliI minD (argsC (gP 3) (argsC (gP 4) args0))) (argsC (cliI maxD (argsC (gP 3) (argsC (gP 4) args0))) (argsC (gS 5) args0)))) (i := 1)
    (s := ⟨[some (.int m), some d, some (.lst true []), none, none, none], μ⟩) (s' := ⟨[some (.int m), some d.share, some (.lst true []), none, none, none], μ⟩) (fun d => match d with
      | .tup [.int a, .int b, .int c] => tieD (nrm (a, b, c))
      | _ => .none) rfl v rfl rfl (by
    intro x hx
    obtain ⟨⟨a, b, c⟩, _, rfl⟩ := List.mem_map.mp hx
    exact ⟨_, ⟨[some (.int m), some d.share, some (.lst true []), some (.int a), some (.int b), some (.int c)], μ⟩, rfl, by simp [minD, maxD, tieD, nrm], rfl⟩)
  have hmm : (ts.map tieD).map (fun d => match d with
      | .tup [.int a, .int b, .int c] => tieD (nrm (a, b, c))
      | _ => .none) = (ts.map nrm).map tieD := by
    rw [List.map_map, List.map_map]; rfl
  rw [hmm] at hc
  have hso := sor_ties false (ts.map nrm)
  have hss := shares_ties ((ts.map nrm).mergeSort tieLe)
  have hsn := shares_ties (ts.map nrm)
  have hsl : ((ts.map nrm).mergeSort tieLe).length ≤ 1000 := by rw [List.length_mergeSort, List.length_map]; exact hl
  generalize (ts.map nrm).mergeSort tieLe = us at hso hss hsl ⊢
  have hi : itS (cliC sorD (argsC (comp [3, 4, 5] (itS (gS 1)) (toT 3 (tgsC (toN 3) (tgsC (toN 4) (tgsC (toN 5) tgs0)))) tst1 (dspT (argsC (cliI minD (argsC (gP 3) (argsC (gP 4) args0))) (argsC (cliI maxD (argsC (gP 3) (argsC (gP 4) args0))) (argsC (gS 5) args0))))) args0)) ⟨[some (.int m), some d, some (.lst true []), none, none, none], μ⟩ = some (.ok (.fix (us.map tieD)), ⟨[some (.int m), some d.share, some (.lst true []), none, none, none], μ⟩) := by
    generalize (ts.map nrm).map tieD = N at hc hso hsn
    generalize us.map tieD = U at hso hss ⊢
    simp [↓hc, hsn, hso, hss]
  obtain ⟨s', e, o3, o4, o5, rfl⟩ := forL_run (f := toT 3 (tgsC (toN 3) (tgsC (toN 4) (tgsC (toN 5) tgs0)))) (b := mrgB)
    (fun i st => ∃ o3 o4 o5, st = ⟨[some (.int m), some d.share, some (.lst true (((us.take i).foldl mrgS []).map tieD)), o3, o4, o5], μ⟩)
    (ds := us.map tieD) (k := 0) (s := ⟨[some (.int m), some d.share, some (.lst true []), none, none, none], μ⟩) ⟨none, none, none, rfl⟩ (by
      rintro i x st hx ⟨o3, o4, o5, rfl⟩
      rw [List.getElem?_map, Option.map_eq_some_iff] at hx
      obtain ⟨t, ht, rfl⟩ := hx
      simp only [Nat.zero_add]
      have hl2 : ((us.take i).foldl mrgS []).length ≤ 1000 := by
        have := mrg_len (us.take i) []
        rw [List.length_take] at this
        simp at this; omega
      have e := mrgB_ok (o0 := some (.int m)) (o1 := some d.share) (μ := μ) (acc := (us.take i).foldl mrgS []) (t := t) hl2
      refine ⟨_, _, rfl, .inl e, some (.int t.1), some (.int t.2.1), some (.int t.2.2), ?_⟩
      have htk : us.take (i + 1) = us.take i ++ [t] := by rw [List.take_add_one, ht]; rfl
      rw [htk, List.foldl_append]; rfl)
  rw [List.length_map, Nat.zero_add, List.take_length] at e
  have h1 : asg (dspL args0) (toN 2) ⟨[some (.int m), some d, none, none, none, none], μ⟩ = some (.ok .nx, ⟨[some (.int m), some d, some (.lst true []), none, none, none], μ⟩) := by simp
  have h3 : startE 6 [.int m, d] = [some (.int m), some d, none, none, none, none] := rfl
  rw [madeM, runB, h3, sq_run h1, sq_run ((forS_fix hi).trans e)]
  rfl
theorem web_of_ok {μ : Cells} {d : D} {m : Int} {ts : List Tie} (v : Fw μ d (ts.map tieD)) : F_web_of [.int m, d] μ = some (.ok (webD true m (mrg ((ts.map nrm).mergeSort tieLe))), μ) := made_ok v
theorem law_made_ok {μ : Cells} {d : D} {m : Int} {ts : List Tie} (v : Fw μ d (ts.map tieD)) : F__law_made [.int m, d] μ = some (.ok (webD true m (mrg ((ts.map nrm).mergeSort tieLe))), μ) := made_ok v
theorem fw_lst {μ : Cells} {o : Bool} {ts : List Tie} (h : ts.length ≤ 1000) : Fw μ (.lst o (ts.map tieD)) (ts.map tieD) := ⟨.inl ⟨o, rfl⟩, frees_ties ts, by rw [List.length_map]; exact h⟩
theorem fw_cell {μ : Cells} {k : Nat} {ts : List Tie} (hk : μ[k]? = some (ts.map tieD)) (h : ts.length ≤ 1000) : Fw μ (.cell k) (ts.map tieD) := ⟨.inr ⟨k, rfl, hk⟩, frees_ties ts, by rw [List.length_map]; exact h⟩
def tins (t : Tie) : List Tie → List Tie
  | [] => [t]
  | u :: us => if tieLe t u then t :: u :: us else u :: tins t us
def isort : List Tie → List Tie
  | [] => []
  | t :: ts => tins t (isort ts)
theorem tins_perm (t : Tie) : ∀ us, (tins t us).Perm (t :: us)
  | [] => List.Perm.refl _
  | u :: us => by
    unfold tins; split
    · exact List.Perm.refl _
    · exact ((tins_perm t us).cons u).trans (List.Perm.swap t u us)
theorem isort_perm : ∀ ts, (isort ts).Perm ts
  | [] => List.Perm.refl _
  | t :: ts => (tins_perm t _).trans ((isort_perm ts).cons t)
theorem tins_sort (t : Tie) : ∀ {us : List Tie}, us.Pairwise (fun a b => tieLe a b = true) → (tins t us).Pairwise fun a b => tieLe a b = true
  | [], _ => by simp [tins]
  | u :: us, h => by
    rw [List.pairwise_cons] at h
    unfold tins; split
    · rename_i hc
      rw [List.pairwise_cons]
      refine ⟨fun x hx => ?_, List.pairwise_cons.mpr h⟩
      rcases List.mem_cons.mp hx with rfl | hx
      · exact hc
      · have := h.1 x hx
        simp only [tieLe, decide_eq_true_eq] at hc this ⊢; omega
    · rename_i hc
      rw [List.pairwise_cons]
      refine ⟨fun x hx => ?_, tins_sort t h.2⟩
      rcases List.mem_cons.mp ((tins_perm t us).mem_iff.mp hx) with rfl | hx
      · simp only [tieLe, decide_eq_true_eq] at hc ⊢; omega
      · exact h.1 x hx
theorem isort_sort : ∀ ts, (isort ts).Pairwise fun a b => tieLe a b = true
  | [] => List.Pairwise.nil
  | t :: ts => tins_sort t (isort_sort ts)
theorem isort_eq (ts : List Tie) : ts.mergeSort tieLe = isort ts := sort_is (isort_sort ts) (isort_perm ts)
def made (ts : List Tie) : List Tie := mrg (isort (ts.map nrm))
theorem web_of_made {μ : Cells} {d : D} {m : Int} {ts : List Tie} (v : Fw μ d (ts.map tieD)) : F_web_of [.int m, d] μ = some (.ok (webD true m (made ts)), μ) := by
  rw [web_of_ok v, isort_eq]; rfl
theorem law_made_made {μ : Cells} {d : D} {m : Int} {ts : List Tie} (v : Fw μ d (ts.map tieD)) : F__law_made [.int m, d] μ = some (.ok (webD true m (made ts)), μ) := by
  rw [law_made_ok v, isort_eq]; rfl
theorem mrg_id : ∀ {us acc : List Tie}, us.Pairwise (fun a b => a.1 < b.1 ∨ (a.1 = b.1 ∧ a.2.1 < b.2.1)) → (∀ u, acc.getLast? = some u → ∀ t ∈ us, ¬ (u.1 = t.1 ∧ u.2.1 = t.2.1)) → us.foldl mrgS acc = acc ++ us
  | [], acc, _, _ => by simp
  | t :: us, acc, h, ha => by
    rw [List.pairwise_cons] at h
    have hs : mrgS acc t = acc ++ [t] := by
      unfold mrgS
      cases hl : acc.getLast? with
      | none =>
        have : acc = [] := by simpa using hl
        subst this; rfl
      | some u =>
        simp only
        rw [if_neg (ha u hl t (by simp))]
    rw [List.foldl_cons, hs, mrg_id h.2 (fun u hu t' ht' => by
      have e : u = t := by simpa using hu.symm
      subst e
      have := h.1 t' ht'
      omega), List.append_assoc]
    rfl
theorem nrm_id {t : Tie} (h : t.1 < t.2.1) : nrm t = t := by
  obtain ⟨a, b, c⟩ := t
  simp only at h
  unfold nrm
  simp only
  rw [if_neg (by omega), if_pos (by omega)]
/-- ties without order make a web -/
theorem made_web {m : Int} {ts : List Tie} (T : Ties m ts) (h1 : 1 ≤ m) (h2 : m ≤ 7) (hl : ts.length ≤ 710) : Web m (made ts) ∧ (made ts).Perm ts := by
  have hn : ts.map nrm = ts := by
    conv => rhs; rw [← List.map_id ts]
    apply List.map_congr_left
    intro t ht
    exact nrm_id (T.ok t ht).2.1
  have w := Web.of_ties T h1 h2 hl
  have e : made ts = ts.mergeSort tieLe := by
    unfold made mrg
    rw [hn, ← isort_eq, mrg_id w.so (fun u hu => by simp at hu), List.nil_append]
  rw [e]
  exact ⟨w, List.mergeSort_perm ts tieLe⟩
def Gen (n k : Nat) (μ : Cells) : Prop := ∃ L, μ[k]? = some L ∧ GOk n L
theorem Gen.mono {n m k : Nat} {μ : Cells} (h : Gen n k μ) (q : n ≤ m) : Gen m k μ := by
  obtain ⟨L, a, b⟩ := h
  exact ⟨L, a, b.mono q⟩
theorem Gen.lt {n k : Nat} {μ : Cells} (h : Gen n k μ) : k < μ.length := by
  obtain ⟨L, a, _⟩ := h
  exact (List.getElem?_eq_some_iff.mp a).1
theorem rnd_gen {n k : Nat} {μ : Cells} {b : Int} (h : Gen n k μ) (b1 : 1 ≤ b) (b2 : b ≤ 1000) (hn : n < 1000000000) :
    ∃ r μ', F__law_random [.cell k, .int b] μ = some (.ok (.int r), μ') ∧ 0 ≤ r ∧ r < b ∧ Gen (n + 100) k μ' ∧ (∀ i, i ≠ k → μ'[i]? = μ[i]?) ∧ μ'.length = μ.length := by
  obtain ⟨L, hk, g⟩ := h
  obtain ⟨r, L', e, r0, r1, g'⟩ := rnd_spec hk g b1 b2 hn
  have hl := (List.getElem?_eq_some_iff.mp hk).1
  exact ⟨r, μ.set k L', e, r0, r1, ⟨L', List.getElem?_set_self hl, g'⟩, fun i hi => List.getElem?_set_ne (fun q => hi q.symm), List.length_set⟩
theorem it2_of {m : M (List DL.It)} {s s' : Sg} {l : List DL.It} {i j : Int} (h : m s = some (.ok l, s')) (ha : atAll s' l = some [.int i, .int j]) (h0 : 0 ≤ i ∧ i ≤ 100) (h1 : 0 ≤ j ∧ j ≤ 100) : it2 m s = some (.ok (.fix (rng i (j - i).toNat)), s') := by
  have s2 : small62 i = true := small62_iff.mpr ⟨by omega, by omega⟩
  have s3 : small62 j = true := small62_iff.mpr ⟨by omega, by omega⟩
  simp only [it2, bnd_ap, h, ha, s2, s3, Bool.and_self, if_true]
/-- the ties that the points 1 .. i have got, each to one ahead of it -/
structure Grown (i : Int) (ts : List Tie) : Prop where
  ok : ∀ t ∈ ts, 0 ≤ t.1 ∧ t.1 < t.2.1 ∧ t.2.1 ≤ i ∧ 1 ≤ t.2.2 ∧ t.2.2 ≤ 9
  nd : (ts.map fun t => (t.1, t.2.1)).Nodup
  all : ∀ p, 1 ≤ p → p ≤ i → ∃ t ∈ ts, t.2.1 = p
theorem Grown.step {i r q : Int} {ts : List Tie} (g : Grown i ts) (r0 : 0 ≤ r) (r1 : r < i + 1) (q0 : 1 ≤ q) (q1 : q ≤ 9) : Grown (i + 1) (ts ++ [(r, i + 1, q)]) := by
  refine ⟨fun t ht => ?_, ?_, fun p p0 p1 => ?_⟩
  · rcases List.mem_append.mp ht with h | h
    · have := g.ok t h; omega
    · have e := List.mem_singleton.mp h
      subst e
      exact ⟨r0, r1, Int.le_refl _, q0, q1⟩
  · rw [List.map_append, List.nodup_append]
    refine ⟨g.nd, by simp, ?_⟩
    intro x hx y hy e
    obtain ⟨t, ht, rfl⟩ := List.mem_map.mp hx
    simp only [List.map_cons, List.map_nil, List.mem_singleton] at hy
    rw [hy] at e
    have e2 := congrArg Prod.snd e
    have := g.ok t ht
    simp only at e2
    omega
  · by_cases h : p = i + 1
    · exact ⟨(r, i + 1, q), List.mem_append_right _ (by simp), h.symm⟩
    · obtain ⟨t, ht, e⟩ := g.all p p0 (by omega)
      exact ⟨t, List.mem_append_left _ ht, e⟩
theorem Grown.ties {m : Int} {ts : List Tie} (g : Grown (m - 1) ts) : Ties m ts := by
  refine ⟨fun t ht => by have := g.ok t ht; omega, g.nd, fun S h0 hS => ?_⟩
  have key : ∀ (n : Nat) (i : Int), i.toNat ≤ n → 0 ≤ i → i < m → S i := fun n => by
    induction n with
    | zero => intro i hi i0 _; have : i = 0 := by omega
              rw [this]; exact h0
    | succ n ih =>
      intro i hi i0 i1
      by_cases hz : i = 0
      · rw [hz]; exact h0
      · obtain ⟨t, ht, e⟩ := g.all i (by omega) (by omega)
        have h1 := g.ok t ht
        have := ih t.1 (by omega) h1.1 (by omega)
        rw [← e]
        exact (hS t ht).mp this
  exact fun i i0 i1 => key i.toNat i (Nat.le_refl _) i0 i1
theorem in_ppl (x y a b : Int) (o : Bool) : inD (.tup [.int x, .int y]) (.lst o [.tup [.int a, .int b], .tup [.int b, .int a]]) = some (.bool ((x == a && y == b) || (x == b && y == a))) := by
  have h : D.low 60 (.tup [.int x, .int y]) = true := rfl
  have h2 : D.lows 60 [.tup [.int a, .int b], .tup [.int b, .int a]] = true := rfl
  simp only [inD, h, h2, Bool.and_self, if_true]
  simp [memD, D.py, D.pys, PyData.eqv, PyData.eqvAll]
  grind
def rowsM : M DL.It := comp [8] (it2 (argsC (kst (.int 1)) (argsC (gP 3) args0))) (toN 8) tst1 (dspT (argsC (DL.call F__law_random (argsC (gS 0) (argsC (gS 8) args0))) (argsC (gS 8) (argsC (binC addD (kst (.int 1)) (DL.call F__law_random (argsC (gS 0) (argsC (gS 2) args0)))) args0))))
theorem rows_ok {n k : Nat} {μ : Cells} {m b q : Int} (g : Gen n k μ) (m1 : 1 ≤ m) (m2 : m ≤ 7) (q1 : 1 ≤ q) (q2 : q ≤ 9) (hn : n < 900000000) :
    ∃ ts μ', rowsM ⟨[some (.cell k), some (.int b), some (.int q), some (.int m), none, none, none, none, none, none], μ⟩ = some (.ok (.val (.lst true (ts.map tieD))), ⟨[some (.cell k), some (.int b), some (.int q), some (.int m), none, none, none, none, none, none], μ'⟩) ∧ Gen (n + 2000) k μ' ∧ (∀ i, i ≠ k → μ'[i]? = μ[i]?) ∧ μ'.length = μ.length ∧ Ties m ts ∧ ts.length ≤ 7 := by
  have hi : it2 (argsC (kst (.int 1)) (argsC (gP 3) args0)) ⟨[some (.cell k), some (.int b), some (.int q), some (.int m), none, none, none, none, none, none], μ⟩ = some (.ok (.fix (rng 1 (m - 1).toNat)), ⟨[some (.cell k), some (.int b), some (.int q), some (.int m), none, none, none, none, none, none], μ⟩) :=
    it2_of (l := [.val (.int 1), .pk 3]) (by simp) rfl ⟨by omega, by omega⟩ ⟨by omega, by omega⟩
  obtain ⟨acc, s', h1, ts, μ', rfl, rfl, g', old, hl, gr, tl⟩ := compL_run (own := [8]) (f := toN 8) (t := tst1) (e := dspT (argsC (DL.call F__law_random (argsC (gS 0) (argsC (gS 8) args0))) (argsC (gS 8) (argsC (binC addD (kst (.int 1)) (DL.call F__law_random (argsC (gS 0) (argsC (gS 2) args0)))) args0))))
    (fun i acc st => ∃ (ts : List Tie) (μ' : Cells), acc = ts.map tieD ∧ st = ⟨[some (.cell k), some (.int b), some (.int q), some (.int m), none, none, none, none, none, none], μ'⟩ ∧ Gen (n + 200 * i) k μ' ∧ (∀ i, i ≠ k → μ'[i]? = μ[i]?) ∧ μ'.length = μ.length ∧ Grown (i : Int) ts ∧ ts.length = i)
    (ds := rng 1 (m - 1).toNat) (k := 0) (acc := []) (s := ⟨[some (.cell k), some (.int b), some (.int q), some (.int m), none, none, none, none, none, none], μ⟩)
    ⟨[], μ, rfl, rfl, g, fun _ _ => rfl, rfl, ⟨(fun t ht => nomatch ht), by simp, fun p p0 p1 => by omega⟩, rfl⟩ (by
      rintro i d acc st hd ⟨ts, μ1, rfl, rfl, g1, old, hl, gr, tl⟩
      obtain ⟨hi, rfl⟩ := rng_get hd
      simp only [Nat.zero_add] at g1 gr tl ⊢
      obtain ⟨r, μ2, e2, r0, r1, g2, old2, hl2⟩ := rnd_gen g1 (b := 1 + (i : Int)) (by omega) (by omega) (by omega)
      obtain ⟨z, μ3, e3, z0, z1, g3, old3, hl3⟩ := rnd_gen g2 (b := q) q1 (by omega) (by omega)
      refine ⟨⟨[some (.cell k), some (.int b), some (.int q), some (.int m), none, none, none, none, some (.int (1 + (i : Int))), none], μ1⟩, true, _, rfl, rfl, .inr ⟨rfl, tieD (r, 1 + (i : Int), 1 + z), ⟨[some (.cell k), some (.int b), some (.int q), some (.int m), none, none, none, none, some (.int (1 + (i : Int))), none], μ3⟩, by simp [e2, e3, addD, tieD], ts ++ [(r, 1 + (i : Int), 1 + z)], μ3, by rw [List.map_append]; rfl, rfl, g3.mono (by omega), fun j hj => (old3 j hj).trans ((old2 j hj).trans (old j hj)), hl3.trans (hl2.trans hl), ?_, by rw [List.length_append, tl]; rfl⟩⟩
      have := gr.step (r := r) (q := 1 + z) r0 (by omega) (by omega) (by omega)
      have e : (1 : Int) + (i : Int) = i + 1 := by omega
      rw [e]
      exact_mod_cast this)
  rw [rng_len] at g' gr tl
  simp only [Nat.zero_add] at g' gr tl
  have e1 : (((m - 1).toNat : Nat) : Int) = m - 1 := by omega
  rw [e1] at gr
  refine ⟨ts, μ', ?_, g'.mono (by omega), old, hl, gr.ties, by omega⟩
  have hlz : (rng 1 (m - 1).toNat).length ≤ 16777216 := by rw [rng_len]; omega
  have hw : wipeE [some (.cell k), some (.int b), some (.int q), some (.int m), none, none, none, none, none, none] [8] = [some (.cell k), some (.int b), some (.int q), some (.int m), none, none, none, none, none, none] := rfl
  rw [rowsM, comp_ap, bnd_ap, hi, sizeLine_eq]
  simp only [if_pos hlz, hw, h1]
def moreB : M Fl := (sq (asg (dspT (argsC (DL.call F__law_random (argsC (gS 0) (argsC (gS 3) args0))) (argsC (DL.call F__law_random (argsC (gS 0) (argsC (gS 3) args0))) args0))) (toT 2 (tgsC (toN 6) (tgsC (toN 7) tgs0))))
    (ifS (andB (tst (binI neE (gP 6) (gP 7))) (tst (binI eqE (comp [9] (itS (gS 4)) (toN 9) (tst (binI inD (slM (gC 9) o0 (o1 (kst (.int 2)))) (dspL (argsC (dspT (argsC (gS 6) (argsC (gS 7) args0))) (argsC (dspT (argsC (gS 7) (argsC (gS 6) args0))) args0))))) (gS 9)) (dspL args0)))) (drp (mtM appO 4 (argsC (dspT (argsC (cliI minD (argsC (gP 6) (argsC (gP 7) args0))) (argsC (cliI maxD (argsC (gP 6) (argsC (gP 7) args0))) (argsC (binC addD (kst (.int 1)) (DL.call F__law_random (argsC (gS 0) (argsC (gS 2) args0)))) args0)))) args0))) skp))
theorem moreB_ok {n k c : Nat} {μ : Cells} {m b q : Int} {o5 o6 o7 : Option D} {ts : List Tie} (g : Gen n k μ) (kc : k ≠ c) (hc : μ[c]? = some (ts.map tieD)) (T : Ties m ts) (tl : ts.length ≤ 100) (m1 : 1 ≤ m) (m2 : m ≤ 7) (q1 : 1 ≤ q) (q2 : q ≤ 9) (hn : n < 900000000) :
    ∃ us μ' o6' o7', moreB ⟨[some (.cell k), some (.int b), some (.int q), some (.int m), some (.cell c), o5, o6, o7, none, none], μ⟩ = some (.ok .nx, ⟨[some (.cell k), some (.int b), some (.int q), some (.int m), some (.cell c), o5, o6', o7', none, none], μ'⟩) ∧ Gen (n + 300) k μ' ∧ μ'[c]? = some (us.map tieD) ∧ Ties m us ∧ us.length ≤ ts.length + 1 := by
  obtain ⟨x, μ1, e1, x0, x1, g1, old1, hl1⟩ := rnd_gen g (b := m) m1 (by omega) (by omega)
  obtain ⟨y, μ2, e2, y0, y1, g2, old2, hl2⟩ := rnd_gen g1 (b := m) m1 (by omega) (by omega)
  have hc2 : μ2[c]? = some (ts.map tieD) := by rw [old2 c (fun e => kc e.symm), old1 c (fun e => kc e.symm)]; exact hc
  have h1 : asg (dspT (argsC (DL.call F__law_random (argsC (gS 0) (argsC (gS 3) args0))) (argsC (DL.call F__law_random (argsC (gS 0) (argsC (gS 3) args0))) args0))) (toT 2 (tgsC (toN 6) (tgsC (toN 7) tgs0))) ⟨[some (.cell k), some (.int b), some (.int q), some (.int m), some (.cell c), o5, o6, o7, none, none], μ⟩ =
      some (.ok .nx, ⟨[some (.cell k), some (.int b), some (.int q), some (.int m), some (.cell c), o5, some (.int x), some (.int y), none, none], μ2⟩) := by
    simp [e1, e2]
  have hcm := comp_dyn (own := [9]) (src := itS (gS 4)) (f := toN 9) (t := tst (binI inD (slM (gC 9) o0 (o1 (kst (.int 2)))) (dspL (argsC (dspT (argsC (gS 6) (argsC (gS 7) args0))) (argsC (dspT (argsC (gS 7) (argsC (gS 6) args0))) args0))))) (e := gS 9) (s := ⟨[some (.cell k), some (.int b), some (.int q), some (.int m), some (.cell c), o5, some (.int x), some (.int y), none, none], μ2⟩) (s' := ⟨[some (.cell k), some (.int b), some (.int q), some (.int m), some (.cell c), o5, some (.int x), some (.int y), none, none], μ2⟩) (ds := ts.map tieD) (n := ts.length + 1) (it := fun μ i => (μ[c]?).bind (·[i]?))
    (fun d => match d with | .tup [.int a, .int b, z] => if (a == x && b == y) || (a == y && b == x) then some d else none | _ => none) (by simp [hc2]) (by omega) (by rw [List.length_map]; omega) (fun i => by show (μ2[c]?).bind (·[i]?) = _; rw [hc2]; rfl) rfl (by
    intro d hd
    obtain ⟨⟨a, b', z⟩, _, rfl⟩ := List.mem_map.mp hd
    have hcut := cut2_3 (.int a) (.int b') (.int z)
    have hin := in_ppl a b' x y true
    refine ⟨⟨[some (.cell k), some (.int b), some (.int q), some (.int m), some (.cell c), o5, some (.int x), some (.int y), none, some (tieD (a, b', z))], μ2⟩, (a == x && b' == y) || (a == y && b' == x), ⟨[some (.cell k), some (.int b), some (.int q), some (.int m), some (.cell c), o5, some (.int x), some (.int y), none, some (tieD (a, b', z))], μ2⟩, rfl, by simp [tieD, hcut, hin], ?_⟩
    cases hq : ((a == x && b' == y) || (a == y && b' == x)) with
    | false => exact .inl ⟨rfl, by simp only [tieD, hq]; rfl, rfl⟩
    | true => exact .inr ⟨rfl, tieD (a, b', z), _, by simp only [tieD, hq]; rfl, rfl, rfl⟩)
  have hfm : (ts.map tieD).filterMap (fun d => match d with | .tup [.int a, .int b, z] => if (a == x && b == y) || (a == y && b == x) then some d else none | _ => none) = (ts.filter fun t => (t.1 == x && t.2.1 == y) || (t.1 == y && t.2.1 == x)).map tieD := by
    clear hcm hc hc2 T tl
    induction ts with
    | nil => rfl
    | cons t ts ih =>
      rw [List.map_cons, List.filterMap_cons, List.filter_cons]
      cases h : ((t.1 == x && t.2.1 == y) || (t.1 == y && t.2.1 == x)) with
      | false => simp only [tieD, h]; simpa using ih
      | true => simp only [tieD, h, if_true, List.map_cons]; exact congrArg _ ih
  rw [hfm] at hcm
  unfold moreB
  rw [sq_run h1]
  have hee : ((ts.filter fun t => (t.1 == x && t.2.1 == y) || (t.1 == y && t.2.1 == x)).map tieD).isEmpty = (ts.filter fun t => (t.1 == x && t.2.1 == y) || (t.1 == y && t.2.1 == x)).isEmpty := by
    cases (ts.filter fun t => (t.1 == x && t.2.1 == y) || (t.1 == y && t.2.1 == x)) <;> rfl
  have heq := eqE_nil true true ((ts.filter fun t => (t.1 == x && t.2.1 == y) || (t.1 == y && t.2.1 == x)).map tieD)
  rw [hee] at heq
  by_cases hxy : x = y
  · refine ⟨ts, μ2, some (.int x), some (.int y), ?_, g2.mono (by omega), hc2, T, by omega⟩
    generalize (ts.filter fun t => (t.1 == x && t.2.1 == y) || (t.1 == y && t.2.1 == x)).map tieD = FD at hcm heq
    simp [hxy]
  · cases hF : (ts.filter fun t => (t.1 == x && t.2.1 == y) || (t.1 == y && t.2.1 == x)) with
    | cons u us =>
      refine ⟨ts, μ2, some (.int x), some (.int y), ?_, g2.mono (by omega), hc2, T, by omega⟩
      rw [hF] at heq hcm
      simp only [List.isEmpty_cons] at heq
      generalize (u :: us).map tieD = FD at hcm heq
      simp [hxy, ↓hcm, heq]
    | nil =>
      obtain ⟨z, μ3, e3, z0, z1, g3, old3, hl3⟩ := rnd_gen g2 (b := q) q1 (by omega) (by omega)
      have hc3 : μ3[c]? = some (ts.map tieD) := by rw [old3 c (fun e => kc e.symm)]; exact hc2
      have hcl := (List.getElem?_eq_some_iff.mp hc3).1
      obtain ⟨M, hM⟩ : ∃ M, M = if y > x then y else x := ⟨_, rfl⟩
      obtain ⟨N, hN⟩ : ∃ N, N = if y < x then y else x := ⟨_, rfl⟩
      have h2 : maxD [.int x, .int y] = some (.int M) := by rw [hM]; rfl
      have h3 : minD [.int x, .int y] = some (.int N) := by rw [hN]; rfl
      have hMN : 0 ≤ N ∧ N < M ∧ M < m ∧ ((N = x ∧ M = y) ∨ (N = y ∧ M = x)) := by
        rw [hM, hN]; split <;> split <;> omega
      have T' : Ties m (ts ++ [(N, M, 1 + z)]) := T.add hMN.1 hMN.2.1 hMN.2.2.1 (by omega) (by omega) (by
        apply List.filter_eq_nil_iff.mpr
        intro t ht hq
        have := List.filter_eq_nil_iff.mp hF t ht
        simp only [Bool.and_eq_true, beq_iff_eq] at hq
        apply this
        simp only [Bool.or_eq_true, Bool.and_eq_true, beq_iff_eq]
        omega)
      have gk : Gen (n + 300) k (μ3.set c ((ts ++ [(N, M, 1 + z)]).map tieD)) := by
        obtain ⟨L, a, b⟩ := g3.mono (m := n + 300) (by omega)
        exact ⟨L, by rw [List.getElem?_set_ne (fun e => kc e.symm)]; exact a, b⟩
      refine ⟨ts ++ [(N, M, 1 + z)], μ3.set c ((ts ++ [(N, M, 1 + z)]).map tieD), some (.int x), some (.int y), ?_, gk, List.getElem?_set_self hcl, T', by rw [List.length_append]; exact Nat.le_refl _⟩
      rw [hF] at heq hcm
      simp only [List.isEmpty_nil] at heq
      rw [List.map_append]
      have hsz : (ts.map tieD).length < 16777216 := by rw [List.length_map]; omega
      generalize ts.map tieD = TD at hc2 hc3 hsz ⊢
      simp only [List.map_nil] at hcm heq
      simp [hxy, ↓hcm, heq, h2, h3, e3, mtM, hc2, hc3, appO, hsz, addD, tieD]
theorem law_web_ok {n k : Nat} {μ : Cells} {b q : Int} (g : Gen n k μ) (b1 : 1 ≤ b) (b7 : b ≤ 7) (q1 : 1 ≤ q) (q9 : q ≤ 9) (hn : n < 800000000) : ∃ m ts μ', F__law_web [.cell k, .int b, .int q] μ = some (.ok (webD true m ts), μ') ∧ Gen (n + 10000) k μ' ∧ Web m ts ∧ m ≤ b := by
  obtain ⟨r, μ1, e1, r0, r1, g1, old1, hl1⟩ := rnd_gen g (b := b) (by omega) (by omega) (by omega)
  obtain ⟨m, hm⟩ : ∃ m, m = 1 + r := ⟨_, rfl⟩
  obtain ⟨ts, μ2, e2, g2, old2, hl2, T2, tl2⟩ := rows_ok (b := b) (q := q) g1 (m := m) (by omega) (by omega) (by omega) (by omega) (by omega)
  have hk := g2.lt
  have g2' : Gen (n + 100 + 2000) k (μ2 ++ [ts.map tieD]) := by
    obtain ⟨L, a, b⟩ := g2
    exact ⟨L, by rw [List.getElem?_append_left hk]; exact a, b⟩
  obtain ⟨j, μ3, e3, j0, j1, g3, old3, hl3⟩ := rnd_gen g2' (b := m) (by omega) (by omega) (by omega)
  have hc3 : μ3[μ2.length]? = some (ts.map tieD) := by rw [old3 _ (by omega)]; simp
  obtain ⟨s', e4, us, μ4, o5, o6, o7, rfl, g4, hc4, T4, tl4⟩ := forL_run (f := toN 5) (b := moreB)
    (fun i st => ∃ us μ' o5 o6 o7, st = ⟨[some (.cell k), some (.int b), some (.int q), some (.int m), some (.cell μ2.length), o5, o6, o7, none, none], μ'⟩ ∧ Gen (n + 3000 + 300 * i) k μ' ∧ μ'[μ2.length]? = some (us.map tieD) ∧ Ties m us ∧ us.length ≤ 7 + i)
    (ds := rng 0 j.toNat) (k := 0) (s := ⟨[some (.cell k), some (.int b), some (.int q), some (.int m), some (.cell μ2.length), none, none, none, none, none], μ3⟩) ⟨ts, μ3, none, none, none, rfl, g3.mono (by omega), hc3, T2, by omega⟩ (by
      rintro i d st hd ⟨us, μ', o5, o6, o7, rfl, gg, hc, T, tl⟩
      obtain ⟨hi, rfl⟩ := rng_get hd
      simp only [Nat.zero_add] at gg tl ⊢
      obtain ⟨vs, μ5, o6', o7', e5, g5, hc5, T5, tl5⟩ := moreB_ok (b := b) (q := q) (o5 := some (.int (0 + (i : Int)))) (o6 := o6) (o7 := o7) gg (by omega) hc T (by omega) (by omega) (by omega) (by omega) (by omega) (by omega)
      exact ⟨_, _, rfl, .inl e5, vs, μ5, some (.int (0 + (i : Int))), o6', o7', rfl, g5.mono (by omega), hc5, T5, by omega⟩)
  rw [rng_len] at g4 tl4
  simp only [Nat.zero_add] at g4 tl4
  have hw := law_made_made (m := m) (fw_cell hc4 (by omega))
  obtain ⟨w, _⟩ := made_web T4 (by omega) (by omega) (by omega)
  refine ⟨m, made us, μ4, ?_, g4.mono (by omega), w, by omega⟩
  have h1 : asg (binC addD (kst (.int 1)) (DL.call F__law_random (argsC (gS 0) (argsC (gS 1) args0)))) (toN 3) ⟨[some (.cell k), some (.int b), some (.int q), none, none, none, none, none, none, none], μ⟩ = some (.ok .nx, ⟨[some (.cell k), some (.int b), some (.int q), some (.int m), none, none, none, none, none, none], μ1⟩) := by
    simp [e1, addD, hm]
  have h2 : asg (thawM rowsM) (toN 4) ⟨[some (.cell k), some (.int b), some (.int q), some (.int m), none, none, none, none, none, none], μ1⟩ = some (.ok .nx, ⟨[some (.cell k), some (.int b), some (.int q), some (.int m), some (.cell μ2.length), none, none, none, none, none], μ2 ++ [ts.map tieD]⟩) := by
    have hs := shares_ties ts
    rw [asg_ap, bnd_ap, thawM_ap, bnd_ap, e2]
    simp only [hs]
    rfl
  have h3 : it1 (argsC (DL.call F__law_random (argsC (gS 0) (argsC (gS 3) args0))) args0) ⟨[some (.cell k), some (.int b), some (.int q), some (.int m), some (.cell μ2.length), none, none, none, none, none], μ2 ++ [ts.map tieD]⟩ = some (.ok (.fix (rng 0 j.toNat)), ⟨[some (.cell k), some (.int b), some (.int q), some (.int m), some (.cell μ2.length), none, none, none, none, none], μ3⟩) :=
    it1_of (l := [.val (.int j)]) (by simp [e3]) rfl ⟨by omega, by omega⟩
  have hs : startE 10 [.cell k, .int b, .int q] = [some (.cell k), some (.int b), some (.int q), none, none, none, none, none, none, none] := rfl
  have hmm : m__law_web = (sq (asg (binC addD (kst (.int 1)) (DL.call F__law_random (argsC (gS 0) (argsC (gS 1) args0)))) (toN 3)) (sq (asg (thawM rowsM) (toN 4)) (sq (forS (it1 (argsC (DL.call F__law_random (argsC (gS 0) (argsC (gS 3) args0))) args0)) (toN 5) moreB) (rtn (DL.call F__law_made (argsC (gS 3) (argsC (gS 4) args0))))))) := rfl
  rw [F__law_web, hmm, runB, hs, sq_run h1, sq_run h2, sq_run ((forS_fix h3).trans e4)]
  simp [hw]
def wW (m : D) (x : D) : D := .tup [.str "web", m, x]
def t3 (a b c : Int) : D := .tup [.int a, .int b, .int c]
/-- the odd values that don't go by the web -/
def oddC : List D := [.none, .tup [], wW (.int 0) (.lst false []), wW (.bool true) (.lst false []), wW (.int 2) (.lst false [t3 0 1 0]), wW (.int 2) (.lst false [t3 0 1 10]), wW (.int 2) (.lst false [t3 1 0 1]),
  wW (.int 2) (.lst false [.tup [.int 0, .int 1, .bool true]]), wW (.int 2) (.lst false [.tup [.int 0, .int 1]]), wW (.int 2) (.lst false [.lst false [.int 0, .int 1, .int 1]]), wW (.int 2) (.lst false [t3 0 2 1]),
  wW (.int 3) (.lst false [t3 1 2 1, t3 0 1 1]), wW (.int 2) (.lst false [t3 0 1 1, t3 0 1 2]), wW (.int 2) (.lst false [.tup [.bool false, .int 1, .int 1]])]
def oddS : D := wW (.int 4) (.lst false [t3 0 1 1, t3 2 3 1])
/-- a value that both judge alike -/
def Jud (v : D) (r : Bool) : Prop := (∀ μ, F__law_is_web [v] μ = some (.ok (.bool r), μ)) ∧ ∀ μ, F_is_web_by [v] μ = some (.ok (.bool r), μ)
theorem jud_c : ∀ v ∈ oddC, Jud v false := by
  intro v hv
  simp only [oddC, List.mem_cons, List.not_mem_nil, or_false] at hv
  rcases hv with rfl | rfl | rfl | rfl | rfl | rfl | rfl | rfl | rfl | rfl | rfl | rfl | rfl | rfl
  all_goals exact ⟨fun μ => by kernel_rfl, fun μ => by kernel_rfl⟩
theorem reached_s (o : Bool) (μ : Cells) : F_reached_from [.lst o [.tup [.int 0, .int 1], .tup [.int 2, .int 3]], .int 0] μ = some (.ok (.lst true [.int 0, .int 1]), μ) := by
  have h1 : ∃ s1, (par2 2 3 (argsC (dspL (argsC (gS 1) args0)) (argsC (dspL (argsC (gS 1) args0)) args0))) ⟨startE 9 [.lst o [.tup [.int 0, .int 1], .tup [.int 2, .int 3]], .int 0], μ⟩ = some (.ok .nx, s1) ∧ s1 = ⟨[some (.lst o [.tup [.int 0, .int 1], .tup [.int 2, .int 3]]), some (.int 0), some (.lst true [.int 0]), some (.lst true [.int 0]), none, none, none, none, none], μ⟩ := ⟨_, by kernel_rfl, rfl⟩
  obtain ⟨s1, h1, rfl⟩ := h1
  have h2 : (whl (tst (binI neE (gP 3) (dspL args0))) (sq (asg (mtM popO 3 args0) (toN 4)) (forS (itS (gS 0)) (toT 2 (tgsC (toN 5) (tgsC (toN 6) tgs0))) (forS (itS (dspT (argsC (dspT (argsC (gS 5) (argsC (gS 6) args0))) (argsC (dspT (argsC (gS 6) (argsC (gS 5) args0))) args0)))) (toT 2 (tgsC (toN 7) (tgsC (toN 8) tgs0))) (ifS (andB (tst (binI eqE (gP 7) (gP 4))) (tst (binI ninD (gP 8) (gP 2)))) (par2 2 3 (argsC (dspL (argsS (gC 2) (argsC (gS 8) args0))) (argsC (dspL (argsS (gC 3) (argsC (gS 8) args0))) args0))) skp)))) fuel) ⟨[some (.lst o [.tup [.int 0, .int 1], .tup [.int 2, .int 3]]), some (.int 0), some (.lst true [.int 0]), some (.lst true [.int 0]), none, none, none, none, none], μ⟩ = some (.ok .nx, ⟨[some (.lst false [.tup [.int 0, .int 1], .tup [.int 2, .int 3]]), some (.int 0), some (.lst true [.int 0, .int 1]), some (.lst true []), some (.int 1), some (.int 2), some (.int 3), some (.int 3), some (.int 2)], μ⟩) := by kernel_rfl
  have hs := sort_ints false [0, 1]
  have e2 : sortI [0, 1] = [0, 1] := by simp [sortI, List.mergeSort, List.MergeSort.Internal.splitInTwo]
  rw [e2] at hs
  simp only [List.map_cons, List.map_nil] at hs
  show runB 9 (sq (par2 2 3 (argsC (dspL (argsC (gS 1) args0)) (argsC (dspL (argsC (gS 1) args0)) args0))) (sq (whl (tst (binI neE (gP 3) (dspL args0))) (sq (asg (mtM popO 3 args0) (toN 4)) (forS (itS (gS 0)) (toT 2 (tgsC (toN 5) (tgsC (toN 6) tgs0))) (forS (itS (dspT (argsC (dspT (argsC (gS 5) (argsC (gS 6) args0))) (argsC (dspT (argsC (gS 6) (argsC (gS 5) args0))) args0)))) (toT 2 (tgsC (toN 7) (tgsC (toN 8) tgs0))) (ifS (andB (tst (binI eqE (gP 7) (gP 4))) (tst (binI ninD (gP 8) (gP 2)))) (par2 2 3 (argsC (dspL (argsS (gC 2) (argsC (gS 8) args0))) (argsC (dspL (argsS (gC 3) (argsC (gS 8) args0))) args0))) skp)))) fuel) (rtn (cliC sorD (argsC (gC 2) args0))))) _ _ = _
  rw [runB, sq_run h1, sq_run h2]
  simp [hs]
theorem jud_s : Jud oddS false := by
  refine ⟨fun μ => by kernel_rfl, fun μ => ?_⟩
  have hh : ∀ o, F_hang_together [.int 4, .lst o [.tup [.int 0, .int 1], .tup [.int 2, .int 3]]] μ = some (.ok (.bool false), μ) := fun o => by
    simp [F_hang_together, m_hang_together, reached_s]
  have h0 : (ifS (orB (notB (tst (cliI isaD (argsC (gP 0) (argsC (kst (.ty "tuple")) args0))))) (orB (tst (binI neE (cliI lenD (argsC (gP 0) args0)) (kst (.int 3)))) (orB (notB (tst (cliI isaD (argsC (ixM (gP 0) (kst (.int 0))) (argsC (kst (.ty "str")) args0))))) (tst (binI neE (ixM (gP 0) (kst (.int 0))) (kst (.str "web"))))))) (rtn (kst (.bool false))) skp) ⟨[some oddS, none, none, none], μ⟩ = some (.ok .nx, ⟨[some oddS, none, none, none], μ⟩) := by kernel_rfl
  have h1 : (ifS (orB (notB (tst (DL.call F_is_whole (argsC (ixM (gP 0) (kst (.int 1))) args0)))) (orB (notB (tst (chn leD leD (kst (.int 1)) (ixM (gP 0) (kst (.int 1))) (kst (.int 7))))) (notB (tst (cliI isaD (argsC (ixM (gP 0) (kst (.int 2))) (argsC (kst (.ty "list")) args0))))))) (rtn (kst (.bool false))) skp) ⟨[some oddS, none, none, none], μ⟩ = some (.ok .nx, ⟨[some oddS, none, none, none], μ⟩) := by kernel_rfl
  have h2 : (asg (ixM (gP 0) (kst (.int 2))) (toN 1)) ⟨[some oddS, none, none, none], μ⟩ = some (.ok .nx, ⟨[some oddS, some (.lst false [t3 0 1 1, t3 2 3 1]), none, none], μ⟩) := by kernel_rfl
  have h3 : (ifS (notB (tst (cliI allD (argsC (comp [2] (itS (gS 1)) (toN 2) tst1 (DL.call F_is_tie (argsC (gS 2) (argsC (ixM (gP 0) (kst (.int 1))) args0)))) args0)))) (rtn (kst (.bool false))) skp) ⟨[some oddS, some (.lst false [t3 0 1 1, t3 2 3 1]), none, none], μ⟩ = some (.ok .nx, ⟨[some oddS, some (.lst false [t3 0 1 1, t3 2 3 1]), none, none], μ⟩) := by kernel_rfl
  have h4 : (ifS (notB (tst (cliI allD (argsC (comp [3] (it2 (argsC (kst (.int 1)) (argsC (cliI lenD (argsC (gP 1) args0)) args0))) (toN 3) tst1 (binI ltD (slM (ixM (gP 1) (binC subD (gC 3) (kst (.int 1)))) o0 (o1 (kst (.int 2)))) (slM (ixM (gP 1) (gP 3)) o0 (o1 (kst (.int 2)))))) args0)))) (rtn (kst (.bool false))) skp) ⟨[some oddS, some (.lst false [t3 0 1 1, t3 2 3 1]), none, none], μ⟩ = some (.ok .nx, ⟨[some oddS, some (.lst false [t3 0 1 1, t3 2 3 1]), none, none], μ⟩) := by kernel_rfl
  have h5 : comp [2] (itS (gS 1)) (toN 2) tst1 (slM (gC 2) o0 (o1 (kst (.int 2)))) ⟨[some oddS, some (.lst false [t3 0 1 1, t3 2 3 1]), none, none], μ⟩ = some (.ok (.val (.lst true [.tup [.int 0, .int 1], .tup [.int 2, .int 3]])), ⟨[some oddS, some (.lst false [t3 0 1 1, t3 2 3 1]), none, none], μ⟩) := by kernel_rfl
  have h6 : ixM (gP 0) (kst (.int 1)) ⟨[some oddS, some (.lst false [t3 0 1 1, t3 2 3 1]), none, none], μ⟩ = some (.ok (.val (.int 4)), ⟨[some oddS, some (.lst false [t3 0 1 1, t3 2 3 1]), none, none], μ⟩) := by kernel_rfl
  show runB 4 (sq (ifS (orB (notB (tst (cliI isaD (argsC (gP 0) (argsC (kst (.ty "tuple")) args0))))) (orB (tst (binI neE (cliI lenD (argsC (gP 0) args0)) (kst (.int 3)))) (orB (notB (tst (cliI isaD (argsC (ixM (gP 0) (kst (.int 0))) (argsC (kst (.ty "str")) args0))))) (tst (binI neE (ixM (gP 0) (kst (.int 0))) (kst (.str "web"))))))) (rtn (kst (.bool false))) skp) (sq (ifS (orB (notB (tst (DL.call F_is_whole (argsC (ixM (gP 0) (kst (.int 1))) args0)))) (orB (notB (tst (chn leD leD (kst (.int 1)) (ixM (gP 0) (kst (.int 1))) (kst (.int 7))))) (notB (tst (cliI isaD (argsC (ixM (gP 0) (kst (.int 2))) (argsC (kst (.ty "list")) args0))))))) (rtn (kst (.bool false))) skp) (sq (asg (ixM (gP 0) (kst (.int 2))) (toN 1)) (sq (ifS (notB (tst (cliI allD (argsC (comp [2] (itS (gS 1)) (toN 2) tst1 (DL.call F_is_tie (argsC (gS 2) (argsC (ixM (gP 0) (kst (.int 1))) args0)))) args0)))) (rtn (kst (.bool false))) skp) (sq (ifS (notB (tst (cliI allD (argsC (comp [3] (it2 (argsC (kst (.int 1)) (argsC (cliI lenD (argsC (gP 1) args0)) args0))) (toN 3) tst1 (binI ltD (slM (ixM (gP 1) (binC subD (gC 3) (kst (.int 1)))) o0 (o1 (kst (.int 2)))) (slM (ixM (gP 1) (gP 3)) o0 (o1 (kst (.int 2)))))) args0)))) (rtn (kst (.bool false))) skp) (rtn (DL.call F_hang_together (argsC (ixM (gP 0) (kst (.int 1))) (argsC (comp [2] (itS (gS 1)) (toN 2) tst1 (slM (gC 2) o0 (o1 (kst (.int 2))))) args0))))))))) _ _ = _
  have hst : startE 4 [oddS] = [some oddS, none, none, none] := rfl
  rw [runB, hst, sq_run h0, sq_run h1, sq_run h2, sq_run h3, sq_run h4]
  simp [↓h5, ↓h6, hh]
/-- the odd values that go by the web -/
def oddW (m : Int) (ts : List Tie) : List D := [.lst false [.str "web", .int m, .lst false (ts.map tieD)], .tup [.str "Web", .int m, .lst false (ts.map tieD)], .tup [.str "web", .int m], wW (.int 8) (.lst false (ts.map tieD)), wW (.str (toString m)) (.lst false (ts.map tieD)),
  .tup [.none, .int m, .lst false (ts.map tieD)], wW (.int m) .none]
theorem case17 {m : Int} (h1 : 1 ≤ m) (h2 : m ≤ 7) : m = 1 ∨ m = 2 ∨ m = 3 ∨ m = 4 ∨ m = 5 ∨ m = 6 ∨ m = 7 := by omega
theorem jud_w {m : Int} {ts : List Tie} (h1 : 1 ≤ m) (h2 : m ≤ 7) : ∀ v ∈ oddW m ts, Jud v false := by
  intro v hv
  simp only [oddW, List.mem_cons, List.not_mem_nil, or_false] at hv
  generalize ts.map tieD = TD at hv
  rcases case17 h1 h2 with rfl | rfl | rfl | rfl | rfl | rfl | rfl
  all_goals
    rcases hv with rfl | rfl | rfl | rfl | rfl | rfl | rfl
    all_goals exact ⟨fun μ => by kernel_rfl, fun μ => by kernel_rfl⟩
theorem jud_t {m : Int} {ts : List Tie} (h1 : 1 ≤ m) (h2 : m ≤ 7) : Jud (wW (.int m) (.tup (ts.map tieD))) false := by
  have hf := frees_ties ts
  generalize ts.map tieD = TD at hf ⊢
  have e1 : (wW (.int m) (.tup TD)).free = true := by simp [wW, D.free, D.frees, hf]
  have le1 : leD (.int 1) (.int m) = some (.bool true) := by simp [leD, cmpI, h1]
  have le7 : leD (.int m) (.int 7) = some (.bool true) := by simp [leD, cmpI, h2]
  refine ⟨fun μ => ?_, fun μ => ?_⟩
  · simp [F__law_is_web, m__law_is_web, wW, hf, F__law_is_whole, m__law_is_whole, le1, le7]
  · simp [F_is_web_by, m_is_web_by, wW, hf, F_is_whole, m_is_whole, le1, le7]
def hg1 (fd : List Int) (a b : Int) : List Int := if a ∈ fd ∧ b ∉ fd then fd ++ [b] else fd
def hg (fd : List Int) (p : Int × Int) : List Int := hg1 (hg1 fd p.1 p.2) p.2 p.1
theorem hg1_len (fd : List Int) (a b : Int) : fd.length ≤ (hg1 fd a b).length := by
  unfold hg1; split
  · rw [List.length_append]; omega
  · exact Nat.le_refl _
theorem hg1_le (fd : List Int) (a b : Int) : (hg1 fd a b).length ≤ fd.length + 1 := by
  unfold hg1; split
  · rw [List.length_append]; exact Nat.le_refl _
  · omega
theorem hg_len (fd : List Int) (p : Int × Int) : fd.length ≤ (hg fd p).length := Nat.le_trans (hg1_len _ _ _) (hg1_len _ _ _)
theorem hg1_same {fd : List Int} {a b : Int} (h : (hg1 fd a b).length = fd.length) : hg1 fd a b = fd ∧ (a ∈ fd → b ∈ fd) := by
  unfold hg1 at h ⊢
  split
  · rename_i q
    rw [if_pos q, List.length_append, List.length_singleton] at h
    omega
  · rename_i q
    exact ⟨rfl, fun ha => Classical.byContradiction fun hb => q ⟨ha, hb⟩⟩
theorem hg_same {fd : List Int} {p : Int × Int} (h : (hg fd p).length = fd.length) : hg fd p = fd ∧ (p.1 ∈ fd ↔ p.2 ∈ fd) := by
  have a := hg1_len fd p.1 p.2
  have b := hg1_len (hg1 fd p.1 p.2) p.2 p.1
  have h' : (hg1 (hg1 fd p.1 p.2) p.2 p.1).length = fd.length := h
  obtain ⟨e1, f1⟩ := hg1_same (fd := fd) (a := p.1) (b := p.2) (by omega)
  have e0 : hg fd p = hg1 fd p.2 p.1 := by unfold hg; rw [e1]
  rw [e0] at h ⊢
  obtain ⟨e2, f2⟩ := hg1_same h
  exact ⟨e2, f1, f2⟩
theorem hgs_len : ∀ (ps : List (Int × Int)) (fd : List Int), fd.length ≤ (ps.foldl hg fd).length
  | [], _ => Nat.le_refl _
  | p :: ps, fd => Nat.le_trans (hg_len fd p) (hgs_len ps _)
theorem hgs_same : ∀ {ps : List (Int × Int)} {fd : List Int}, (ps.foldl hg fd).length = fd.length → ∀ p ∈ ps, (p.1 ∈ fd ↔ p.2 ∈ fd)
  | [], _, _, p, hp => nomatch hp
  | q :: ps, fd, h, p, hp => by
    have a := hg_len fd q
    have b := hgs_len ps (hg fd q)
    rw [List.foldl_cons] at h
    obtain ⟨e, f⟩ := hg_same (fd := fd) (p := q) (by omega)
    rw [e] at h
    rcases List.mem_cons.mp hp with rfl | hp
    · exact f
    · exact hgs_same h p hp
structure HG (m : Int) (fd : List Int) : Prop where
  nd : fd.Nodup
  lo : ∀ x ∈ fd, 0 ≤ x ∧ x < m
  z : 0 ∈ fd
theorem HG.one {m : Int} {fd : List Int} (h : HG m fd) {a b : Int} (hb : 0 ≤ b ∧ b < m) : HG m (hg1 fd a b) := by
  unfold hg1; split
  · rename_i q
    refine ⟨?_, fun x hx => ?_, List.mem_append_left _ h.z⟩
    · rw [List.nodup_append]
      refine ⟨h.nd, by simp, fun x hx y hy => ?_⟩
      rw [List.mem_singleton] at hy
      subst hy
      intro e; subst e; exact q.2 hx
    · rcases List.mem_append.mp hx with hx | hx
      · exact h.lo x hx
      · rw [List.mem_singleton] at hx; subst hx; exact hb
  · exact h
theorem HG.step {m : Int} {fd : List Int} (h : HG m fd) {p : Int × Int} (hp : 0 ≤ p.1 ∧ p.1 < m ∧ 0 ≤ p.2 ∧ p.2 < m) : HG m (hg fd p) := (h.one ⟨hp.2.2.1, hp.2.2.2⟩).one ⟨hp.1, hp.2.1⟩
theorem HG.steps {m : Int} : ∀ {ps : List (Int × Int)} {fd : List Int}, HG m fd → (∀ p ∈ ps, 0 ≤ p.1 ∧ p.1 < m ∧ 0 ≤ p.2 ∧ p.2 < m) → HG m (ps.foldl hg fd)
  | [], _, h, _ => h
  | p :: ps, _, h, hq => HG.steps (ps := ps) (h.step (hq p (by simp))) fun q hq' => hq q (List.mem_cons_of_mem _ hq')
theorem HG.len {m : Int} {fd : List Int} (h : HG m fd) (h0 : 0 ≤ m) : (fd.length : Int) ≤ m := by
  have a := sub_len h.nd (k := ups m) fun x hx => ups_mem.mpr (h.lo x hx)
  have := ups_len (m := m) h0
  omega
/-- a pass over all pairs finds more, or all are found -/
theorem HG.grow {m : Int} {qs : List (Int × Int)} {fd : List Int} (h : HG m fd) (h0 : 0 ≤ m) (hq : ∀ p ∈ qs, 0 ≤ p.1 ∧ p.1 < m ∧ 0 ≤ p.2 ∧ p.2 < m) (jn : ∀ S : Int → Prop, S 0 → (∀ p ∈ qs, S p.1 ↔ S p.2) → ∀ i, 0 ≤ i → i < m → S i) :
    (fd.length : Int) + 1 ≤ ((qs.foldl hg fd).length : Int) ∨ (fd.length : Int) = m := by
  by_cases e : (qs.foldl hg fd).length = fd.length
  · right
    have al := jn (· ∈ fd) h.z (hgs_same e)
    have b := sub_len (ups_nd m) (k := fd) fun x hx => by
      have := ups_mem.mp hx
      exact al x this.1 this.2
    have := ups_len (m := m) h0
    have := h.len h0
    omega
  · left
    have := hgs_len qs fd
    omega
def hgn (qs : List (Int × Int)) : Nat → List Int
  | 0 => [0]
  | k + 1 => qs.foldl hg (hgn qs k)
theorem hgn_ok {m : Int} {qs : List (Int × Int)} (h1 : 1 ≤ m) (hq : ∀ p ∈ qs, 0 ≤ p.1 ∧ p.1 < m ∧ 0 ≤ p.2 ∧ p.2 < m) (jn : ∀ S : Int → Prop, S 0 → (∀ p ∈ qs, S p.1 ↔ S p.2) → ∀ i, 0 ≤ i → i < m → S i) :
    ∀ k : Nat, HG m (hgn qs k) ∧ ((k : Int) + 1 ≤ (hgn qs k).length ∨ ((hgn qs k).length : Int) = m)
  | 0 => ⟨⟨by simp [hgn], fun x hx => by simp [hgn] at hx; omega, by simp [hgn]⟩, .inl (by simp [hgn])⟩
  | k + 1 => by
    obtain ⟨a, b⟩ := hgn_ok h1 hq jn k
    have c := a.steps hq
    refine ⟨c, ?_⟩
    have g := a.grow (by omega) hq jn
    have l1 := c.len (by omega)
    have l2 := a.len (by omega)
    have l3 := hgs_len qs (hgn qs k)
    show _ ∨ ((qs.foldl hg (hgn qs k)).length : Int) = m
    have e : (hgn qs (k + 1)).length = (qs.foldl hg (hgn qs k)).length := rfl
    rw [e]
    omega
theorem hgn_all {m : Int} {qs : List (Int × Int)} {k : Nat} (h1 : 1 ≤ m) (hk : m ≤ k) (hq : ∀ p ∈ qs, 0 ≤ p.1 ∧ p.1 < m ∧ 0 ≤ p.2 ∧ p.2 < m) (jn : ∀ S : Int → Prop, S 0 → (∀ p ∈ qs, S p.1 ↔ S p.2) → ∀ i, 0 ≤ i → i < m → S i) :
    ((hgn qs k).length : Int) = m := by
  obtain ⟨a, b⟩ := hgn_ok h1 hq jn k
  have := a.len (by omega)
  omega
def hangA : M Fl := (asg (binC addD (gC 2) (binC mulD (dspL (argsC (gS 5) args0)) (cliI intD (argsC (andV (binI inD (gP 4) (gP 2)) (binI ninD (gP 5) (gP 2))) args0)))) (toN 2))
def hangC : M Fl := (asg (binC addD (gC 2) (binC mulD (dspL (argsC (gS 4) args0)) (cliI intD (argsC (andV (binI inD (gP 5) (gP 2)) (binI ninD (gP 4) (gP 2))) args0)))) (toN 2))
theorem hang_add {fd : List Int} {B : List D} (hl : fd.length ≤ 1000) (hB : B.length ≤ 1) : addD (.lst false (fd.map .int)) (.lst false B) = some (.lst true (fd.map .int ++ B)) := by
  have : (fd.map D.int).length + B.length ≤ sizeLine := by rw [List.length_map, sizeLine_eq]; omega
  exact if_pos this
theorem hangA_ok {x0 x1 x3 : Option D} {μ : Cells} {fd : List Int} {a b : Int} (hl : fd.length ≤ 1000) :
    hangA ⟨[x0, x1, some (.lst true (fd.map .int)), x3, some (.int a), some (.int b)], μ⟩ = some (.ok .nx, ⟨[x0, x1, some (.lst true ((hg1 fd a b).map .int)), x3, some (.int a), some (.int b)], μ⟩) := by
  have m1 : mulD (.lst false [.int b]) (.int 1) = some (.lst true [.int b]) := rfl
  have m0 : mulD (.lst false [.int b]) (.int 0) = some (.lst true []) := rfl
  have m1' : mulD (.lst true [.int b]) (.int 1) = some (.lst true [.int b]) := rfl
  have m0' : mulD (.lst true [.int b]) (.int 0) = some (.lst true []) := rfl
  have i1 : intD [.bool true] = some (.int 1) := rfl
  have i0 : intD [.bool false] = some (.int 0) := rfl
  have a1 := hang_add (B := [.int b]) hl (by simp)
  have a0 := hang_add (B := []) hl (by simp)
  have h1 := in_ints a true fd
  have h2 := nin_ints b true fd
  have h1' := in_ints a false fd
  have h2' := nin_ints b false fd
  have hf := frees_ints fd
  have hs := shares_ints fd
  have hea : easy (.lst true (fd.map D.int)) = true := by simp [easy, hf]
  have hr : (hg1 fd a b).map D.int = if a ∈ fd ∧ b ∉ fd then fd.map D.int ++ [.int b] else fd.map D.int ++ [] := by
    unfold hg1; split
    · rw [List.map_append]; rfl
    · rw [List.append_nil]
  rw [hr]
  generalize fd.map D.int = FD at *
  by_cases ha : a ∈ fd <;> by_cases hb : b ∈ fd <;> simp only [ha, hb, decide_true, decide_false, Bool.not_true, Bool.not_false] at h1 h2 h1' h2' <;>
    simp [hangA, h1, h2, h1', h2', i1, i0, m1, m0, m1', m0', a1, a0, hf, hs, hea, ha, hb]
theorem hangC_ok {x0 x1 x3 : Option D} {μ : Cells} {fd : List Int} {a b : Int} (hl : fd.length ≤ 1000) :
    hangC ⟨[x0, x1, some (.lst true (fd.map .int)), x3, some (.int a), some (.int b)], μ⟩ = some (.ok .nx, ⟨[x0, x1, some (.lst true ((hg1 fd b a).map .int)), x3, some (.int a), some (.int b)], μ⟩) := by
  have m1 : mulD (.lst false [.int a]) (.int 1) = some (.lst true [.int a]) := rfl
  have m0 : mulD (.lst false [.int a]) (.int 0) = some (.lst true []) := rfl
  have m1' : mulD (.lst true [.int a]) (.int 1) = some (.lst true [.int a]) := rfl
  have m0' : mulD (.lst true [.int a]) (.int 0) = some (.lst true []) := rfl
  have i1 : intD [.bool true] = some (.int 1) := rfl
  have i0 : intD [.bool false] = some (.int 0) := rfl
  have a1 := hang_add (B := [.int a]) hl (by simp)
  have a0 := hang_add (B := []) hl (by simp)
  have h1 := in_ints b true fd
  have h2 := nin_ints a true fd
  have h1' := in_ints b false fd
  have h2' := nin_ints a false fd
  have hf := frees_ints fd
  have hs := shares_ints fd
  have hea : easy (.lst true (fd.map D.int)) = true := by simp [easy, hf]
  have hr : (hg1 fd b a).map D.int = if b ∈ fd ∧ a ∉ fd then fd.map D.int ++ [.int a] else fd.map D.int ++ [] := by
    unfold hg1; split
    · rw [List.map_append]; rfl
    · rw [List.append_nil]
  rw [hr]
  generalize fd.map D.int = FD at *
  by_cases ha : b ∈ fd <;> by_cases hb : a ∈ fd <;> simp only [ha, hb, decide_true, decide_false, Bool.not_true, Bool.not_false] at h1 h2 h1' h2' <;>
    simp [hangC, h1, h2, h1', h2', i1, i0, m1, m0, m1', m0', a1, a0, hf, hs, hea, ha, hb]
theorem comp_mapw {own : List Nat} {src : M Src} {f : Tgt} {e : M DL.It} {s s0 s' : Sg} {ds : List D} (g : D → D) (hi : src s = some (.ok (.fix ds), s0)) (hw0 : (⟨wipeE s0.ρ own, s0.μ⟩ : Sg) = s') (hl : ds.length ≤ 16777216) (hw : (⟨wipeE s'.ρ own, s'.μ⟩ : Sg) = s')
    (h : ∀ d ∈ ds, ∃ s1 s3, f d s' = some s1 ∧ e s1 = some (.ok (.val (g d)), s3) ∧ (⟨wipeE s3.ρ own, s3.μ⟩ : Sg) = s') :
    comp own src f tst1 e s = some (.ok (.val (.lst true (ds.map g))), s') := by
  have q := comp_map (own := own) (src := fun _ => some (.ok (.fix ds), s')) (s := s) (s' := s') g rfl hl hw h
  rw [comp_ap, bnd_ap] at q
  rw [comp_ap, bnd_ap, hi]
  simp only [hw] at q
  simp only [hw0]
  exact q
theorem hang_inner {x0 x1 x3 o4 o5 : Option D} {μ : Cells} {qs : List (Int × Int)} {fd : List Int} {m : Int} (h7 : m ≤ 7) (h0 : 0 ≤ m) (h : HG m fd) (hq : ∀ p ∈ qs, 0 ≤ p.1 ∧ p.1 < m ∧ 0 ≤ p.2 ∧ p.2 < m) :
    ∃ o4' o5', forL (toT 2 (tgsC (toN 4) (tgsC (toN 5) tgs0))) (sq hangA hangC) (qs.map pairD) ⟨[x0, x1, some (.lst true (fd.map .int)), x3, o4, o5], μ⟩ = some (.ok .nx, ⟨[x0, x1, some (.lst true ((qs.foldl hg fd).map .int)), x3, o4', o5'], μ⟩) := by
  obtain ⟨s', e, o4', o5', rfl⟩ := forL_run (f := toT 2 (tgsC (toN 4) (tgsC (toN 5) tgs0))) (b := sq hangA hangC)
    (fun i st => ∃ o4 o5, st = ⟨[x0, x1, some (.lst true (((qs.take i).foldl hg fd).map .int)), x3, o4, o5], μ⟩)
    (ds := qs.map pairD) (k := 0) (s := ⟨[x0, x1, some (.lst true (fd.map .int)), x3, o4, o5], μ⟩) ⟨o4, o5, rfl⟩ (by
      rintro i d st hd ⟨o4, o5, rfl⟩
      rw [List.getElem?_map, Option.map_eq_some_iff] at hd
      obtain ⟨p, hp, rfl⟩ := hd
      simp only [Nat.zero_add]
      have hh := h.steps (ps := qs.take i) fun q hq' => hq q (List.mem_of_mem_take hq')
      have l1 := hh.len h0
      have l2 := hg1_le ((qs.take i).foldl hg fd) p.1 p.2
      have e1 := hangA_ok (x0 := x0) (x1 := x1) (x3 := x3) (μ := μ) (fd := (qs.take i).foldl hg fd) (a := p.1) (b := p.2) (by omega)
      have e2 := hangC_ok (x0 := x0) (x1 := x1) (x3 := x3) (μ := μ) (fd := hg1 ((qs.take i).foldl hg fd) p.1 p.2) (a := p.1) (b := p.2) (by omega)
      have htk : qs.take (i + 1) = qs.take i ++ [p] := by rw [List.take_add_one, hp]; rfl
      refine ⟨_, _, rfl, .inl ((sq_run e1).trans e2), some (.int p.1), some (.int p.2), ?_⟩
      rw [htk, List.foldl_append]; rfl)
  rw [List.length_map, Nat.zero_add, List.take_length] at e
  exact ⟨o4', o5', e⟩
theorem lhang_ok {o : Bool} {μ : Cells} {m mm : Int} {qs : List (Int × Int)} (h1 : 1 ≤ m) (hm : m ≤ mm) (h7 : mm ≤ 7) (hq : ∀ p ∈ qs, 0 ≤ p.1 ∧ p.1 < m ∧ 0 ≤ p.2 ∧ p.2 < m)
    (jn : ∀ S : Int → Prop, S 0 → (∀ p ∈ qs, S p.1 ↔ S p.2) → ∀ i, 0 ≤ i → i < m → S i) : F__law_hang [.int mm, .lst o (qs.map pairD)] μ = some (.ok (.bool (decide (m = mm))), μ) := by
  have hi : it1 (argsC (gP 0) args0) ⟨[some (.int mm), some (.lst o (qs.map pairD)), some (.lst true [.int 0]), none, none, none], μ⟩ = some (.ok (.fix (rng 0 mm.toNat)), ⟨[some (.int mm), some (.lst o (qs.map pairD)), some (.lst true [.int 0]), none, none, none], μ⟩) :=
    it1_of (l := [.pk 0]) (by simp) rfl ⟨by omega, by omega⟩
  obtain ⟨s', e, o', o3, o4, o5, rfl⟩ := forL_run (f := toN 3) (b := forS (itS (gS 1)) (toT 2 (tgsC (toN 4) (tgsC (toN 5) tgs0))) (sq hangA hangC))
    (fun i st => ∃ o' o3 o4 o5, st = ⟨[some (.int mm), some (.lst o' (qs.map pairD)), some (.lst true ((hgn qs i).map .int)), o3, o4, o5], μ⟩)
    (ds := rng 0 mm.toNat) (k := 0) (s := ⟨[some (.int mm), some (.lst o (qs.map pairD)), some (.lst true [.int 0]), none, none, none], μ⟩) ⟨o, none, none, none, rfl⟩ (by
      rintro i d st hd ⟨o', o3, o4, o5, rfl⟩
      obtain ⟨hi, rfl⟩ := rng_get hd
      simp only [Nat.zero_add]
      obtain ⟨hh, _⟩ := hgn_ok h1 hq jn i
      have hs := shares_pairs qs
      have hit : itS (gS 1) ⟨[some (.int mm), some (.lst o' (qs.map pairD)), some (.lst true ((hgn qs i).map .int)), some (.int (0 + (i : Int))), o4, o5], μ⟩ = some (.ok (.fix (qs.map pairD)), ⟨[some (.int mm), some (.lst false (qs.map pairD)), some (.lst true ((hgn qs i).map .int)), some (.int (0 + (i : Int))), o4, o5], μ⟩) := by
        generalize qs.map pairD = Q at hs ⊢
        simp [hs]
      obtain ⟨o4', o5', e1⟩ := hang_inner (x0 := some (.int mm)) (x1 := some (.lst false (qs.map pairD))) (x3 := some (.int (0 + (i : Int)))) (o4 := o4) (o5 := o5) (μ := μ) (by omega) (by omega) hh hq
      exact ⟨_, _, rfl, .inl ((forS_fix hit).trans e1), false, some (.int (0 + (i : Int))), o4', o5', rfl⟩)
  rw [rng_len, Nat.zero_add] at e
  have hal := hgn_all (k := mm.toNat) h1 (by omega) hq jn
  have hl : ((((hgn qs mm.toNat).map D.int).length : Nat) : Int) = m := by rw [List.length_map]; exact hal
  have hf := frees_ints (hgn qs mm.toNat)
  generalize (hgn qs mm.toNat).map D.int = G at e hl hf
  have h0 : asg (dspL (argsC (kst (.int 0)) args0)) (toN 2) ⟨[some (.int mm), some (.lst o (qs.map pairD)), none, none, none, none], μ⟩ = some (.ok .nx, ⟨[some (.int mm), some (.lst o (qs.map pairD)), some (.lst true [.int 0]), none, none, none], μ⟩) := by simp
  have hst : startE 6 [.int mm, .lst o (qs.map pairD)] = [some (.int mm), some (.lst o (qs.map pairD)), none, none, none, none] := rfl
  show runB 6 (sq (asg (dspL (argsC (kst (.int 0)) args0)) (toN 2)) (sq (forS (it1 (argsC (gP 0) args0)) (toN 3) (forS (itS (gS 1)) (toT 2 (tgsC (toN 4) (tgsC (toN 5) tgs0))) (sq hangA hangC))) (rtn (binI eqE (cliI lenD (argsC (gP 2) args0)) (gP 0))))) _ _ = _
  rw [runB, hst, sq_run h0, sq_run ((forS_fix hi).trans e)]
  simp [hl]
  rw [Bool.eq_iff_iff]; simp
def lwB1 : M Fl := (ifS (orB (notB (tst (cliI isaD (argsC (gP 2) (argsC (kst (.ty "tuple")) args0))))) (orB (tst (binI neE (cliI lenD (argsC (gP 2) args0)) (kst (.int 3)))) (tst (binI neE (comp [3] (itS (gS 2)) (toN 3) (notB (tst (DL.call F__law_is_whole (argsC (gS 3) args0)))) (gS 3)) (dspL args0))))) (rtn (kst (.bool false))) skp)
def lwB2 : M Fl := (ifS (orB (notB (tst (chn3 leD ltD ltD (kst (.int 0)) (ixM (gP 2) (kst (.int 0))) (ixM (gP 2) (kst (.int 1))) (ixM (gP 0) (kst (.int 1)))))) (orB (notB (tst (chn leD leD (kst (.int 1)) (ixM (gP 2) (kst (.int 2))) (kst (.int 9))))) (andB (tst (binI gtD (gP 1) (kst (.int 0)))) (tst (binI geT (slM (ixM (ixM (gP 0) (kst (.int 2))) (binC subD (gC 1) (kst (.int 1)))) o0 (o1 (kst (.int 2)))) (slM (gC 2) o0 (o1 (kst (.int 2))))))))) (rtn (kst (.bool false))) skp)
theorem geT_pp (a b c d : Int) : geT (.tup [.int a, .int b]) (.tup [.int c, .int d]) = some (.bool (!decide (a < c ∨ (a = c ∧ b < d)))) := by
  have e : geL [a, b] [c, d] = (if decide (a = c) = true then (if decide (b = d) = true then true else decide (d ≤ b)) else decide (c ≤ a)) := rfl
  have : geL [a, b] [c, d] = !decide (a < c ∨ (a = c ∧ b < d)) := by
    rw [e]
    by_cases h : a = c
    · subst h
      by_cases h2 : b = d
      · subst h2; simp
      · rw [Bool.eq_iff_iff]; simp [h2]
    · rw [Bool.eq_iff_iff]; simp [h]
  show some (D.bool (geL [a, b] [c, d])) = _
  rw [this]
theorem whole_l (z : Int) (μ : Cells) : F__law_is_whole [.int z] μ = some (.ok (.bool true), μ) := rfl
theorem lw_b1 {x0 o1 : Option D} {μ : Cells} {t : Tie} : lwB1 ⟨[x0, o1, some (tieD t), none], μ⟩ = some (.ok .nx, ⟨[x0, o1, some (tieD t), none], μ⟩) := by
  obtain ⟨a, b, c⟩ := t
  have e := comp_fil (own := [3]) (src := itS (gS 2)) (f := toN 3) (t := notB (tst (DL.call F__law_is_whole (argsC (gS 3) args0)))) (e := gS 3) (s := ⟨[x0, o1, some (tieD (a, b, c)), none], μ⟩) (s' := ⟨[x0, o1, some (tieD (a, b, c)), none], μ⟩) (ds := [.int a, .int b, .int c]) (fun _ => none) (by simp [tieD]) (by simp) rfl (by
    intro d hd
    have : ∃ z, d = .int z := by simp at hd; rcases hd with rfl | rfl | rfl <;> exact ⟨_, rfl⟩
    obtain ⟨z, rfl⟩ := this
    exact ⟨⟨[x0, o1, some (tieD (a, b, c)), some (.int z)], μ⟩, false, ⟨[x0, o1, some (tieD (a, b, c)), some (.int z)], μ⟩, rfl, by simp [whole_l], .inl ⟨rfl, rfl, rfl⟩⟩)
  have hn := neE_nil true true []
  simp only [tieD, List.filterMap_cons, List.filterMap_nil] at e ⊢
  simp only [List.isEmpty_nil, Bool.not_true] at hn
  simp [lwB1, ↓e, hn]
theorem lw_b2 {μ : Cells} {m mm : Int} {ts : List Tie} (w : Web m ts) (hm : m ≤ mm) {i : Nat} {t : Tie} (ht : ts[i]? = some t) :
    lwB2 ⟨[some (webD false mm ts), some (.int (i : Int)), some (tieD t), none], μ⟩ = some (.ok .nx, ⟨[some (webD false mm ts), some (.int (i : Int)), some (tieD t), none], μ⟩) := by
  obtain ⟨h1, h2, h3, h4, h5⟩ := w.T.ok t (List.mem_of_getElem? ht)
  have hl := w.len
  have hf := frees_ties ts
  have c1 : leD (.int 0) (.int t.1) = some (.bool true) := by simp [leD, cmpI, h1]
  have c2 : ltD (.int t.1) (.int t.2.1) = some (.bool true) := by simp [h2]
  have c3 : ltD (.int t.2.1) (.int mm) = some (.bool true) := by
    have : t.2.1 < mm := by omega
    simp [this]
  have c4 : leD (.int 1) (.int t.2.2) = some (.bool true) := by simp [leD, cmpI, h4]
  have c5 : leD (.int t.2.2) (.int 9) = some (.bool true) := by simp [leD, cmpI, h5]
  obtain ⟨a, b, c⟩ := t
  simp only at h1 h2 h3 h4 h5 c1 c2 c3 c4 c5
  cases i with
  | zero =>
    have g0 : gtD (.int ((0 : Nat) : Int)) (.int 0) = some (.bool false) := rfl
    simp [lwB2, webD, tieD, hf, c1, c2, c3, c4, c5, g0]
  | succ j =>
    have hj : j + 1 < ts.length := (List.getElem?_eq_some_iff.mp ht).1
    obtain ⟨u, hu⟩ : ∃ u, ts[j]? = some u := ⟨ts[j], List.getElem?_eq_getElem (by omega)⟩
    have hlt : u.1 < a ∨ (u.1 = a ∧ u.2.1 < b) := by
      have := List.pairwise_iff_getElem.mp w.so j (j + 1) (by omega) hj (by omega)
      have e1 : ts[j] = u := (List.getElem?_eq_some_iff.mp hu).2
      have e2 : ts[j + 1] = (a, b, c) := (List.getElem?_eq_some_iff.mp ht).2
      rw [e1, e2] at this
      exact this
    have a1 : atI (ts.map tieD) (((j + 1 : Nat) : Int) - 1) = some (tieD u) := by
      have := atI_of (xs := ts.map tieD) (k := j) (x := tieD u) (by simp [hu])
      rw [← this]; congr 1; push_cast; omega
    have g0 : gtD (.int ((j + 1 : Nat) : Int)) (.int 0) = some (.bool true) := by
      have : (0 : Int) < ((j + 1 : Nat) : Int) := by omega
      show cmpI _ _ _ = _
      simp only [cmpI, this, decide_true]
    have s0 : subD (.int ((j + 1 : Nat) : Int)) (.int 1) = some (.int (((j + 1 : Nat) : Int) - 1)) := rfl
    obtain ⟨x, y, z⟩ := u
    have gg := geT_pp x y a b
    have hd : decide (x < a ∨ (x = a ∧ y < b)) = true := by simpa using hlt
    rw [hd] at gg
    have k1 := cut2_3 (.int x) (.int y) (.int z)
    have k2 := cut2_3 (.int a) (.int b) (.int c)
    generalize ((j + 1 : Nat) : Int) = J at *
    simp [lwB2, webD, tieD, hf, c1, c2, c3, c4, c5, g0, s0, a1, k1, k2, gg]
/-- the law judges a web, over so many points -/
theorem law_is_web_gen {μ : Cells} {m mm : Int} {ts : List Tie} (w : Web m ts) (hm : m ≤ mm) (h7 : mm ≤ 7) : F__law_is_web [webD false mm ts] μ = some (.ok (.bool (decide (m = mm))), μ) := by
  have m1 := w.m1
  have hf := frees_ties ts
  have hs := shares_ties ts
  have hl := w.len
  have le1 : leD (.int 1) (.int mm) = some (.bool true) := by
    have : 1 ≤ mm := by omega
    simp [leD, cmpI, this]
  have le7 : leD (.int mm) (.int 7) = some (.bool true) := by simp [leD, cmpI, h7]
  have h1 : (ifS (orB (notB (tst (cliI isaD (argsC (gP 0) (argsC (kst (.ty "tuple")) args0))))) (orB (tst (binI neE (cliI lenD (argsC (gP 0) args0)) (kst (.int 3)))) (orB (notB (tst (cliI isaD (argsC (ixM (gP 0) (kst (.int 0))) (argsC (kst (.ty "str")) args0))))) (orB (tst (binI neE (ixM (gP 0) (kst (.int 0))) (kst (.str "web")))) (orB (notB (tst (DL.call F__law_is_whole (argsC (ixM (gP 0) (kst (.int 1))) args0)))) (notB (tst (chn leD leD (kst (.int 1)) (ixM (gP 0) (kst (.int 1))) (kst (.int 7)))))))))) (rtn (kst (.bool false))) skp) ⟨[some (webD false mm ts), none, none, none], μ⟩ = some (.ok .nx, ⟨[some (webD false mm ts), none, none, none], μ⟩) := by
    simp [webD, hf, whole_l, le1, le7]
  have h2 : (ifS (notB (tst (cliI isaD (argsC (ixM (gP 0) (kst (.int 2))) (argsC (kst (.ty "list")) args0))))) (rtn (kst (.bool false))) skp) ⟨[some (webD false mm ts), none, none, none], μ⟩ = some (.ok .nx, ⟨[some (webD false mm ts), none, none, none], μ⟩) := by
    simp [webD, hf]
  have hi : itE (argsC (ixM (gP 0) (kst (.int 2))) args0) ⟨[some (webD false mm ts), none, none, none], μ⟩ = some (.ok (.fix (enum (ts.map tieD))), ⟨[some (webD false mm ts), none, none, none], μ⟩) := by
    simp [webD, hf, hs, itE, view, fixed]
  obtain ⟨s', e, p1, p2, rfl⟩ := forL_run (f := (toT 2 (tgsC (toN 1) (tgsC (toN 2) tgs0)))) (b := sq lwB1 lwB2)
    (fun i st => ∃ p1 p2, st = ⟨[some (webD false mm ts), p1, p2, none], μ⟩)
    (ds := enum (ts.map tieD)) (k := 0) (s := ⟨[some (webD false mm ts), none, none, none], μ⟩) ⟨none, none, rfl⟩ (by
      rintro i d st hd ⟨p1, p2, rfl⟩
      obtain ⟨t, ht, rfl⟩ : ∃ t, ts[i]? = some t ∧ d = .tup [.int (i : Int), tieD t] := by
        unfold enum at hd
        rw [List.getElem?_mapIdx, List.getElem?_map, Option.map_map, Option.map_eq_some_iff] at hd
        obtain ⟨t, ht, rfl⟩ := hd
        exact ⟨t, ht, rfl⟩
      have e1 := lw_b1 (x0 := some (webD false mm ts)) (o1 := some (.int (i : Int))) (μ := μ) (t := t)
      have e2 := lw_b2 (μ := μ) w hm ht
      exact ⟨_, _, rfl, .inl ((sq_run e1).trans e2), _, _, rfl⟩)
  have e3 := comp_mapw (own := [2]) (f := toN 2) (e := slM (gC 2) o0 (o1 (kst (.int 2)))) (src := itS (ixM (gP 0) (kst (.int 2)))) (s := ⟨[some (webD false mm ts), p1, p2, none], μ⟩) (s0 := ⟨[some (webD false mm ts), p1, p2, none], μ⟩) (s' := ⟨[some (webD false mm ts), p1, none, none], μ⟩) (ds := ts.map tieD) (fun d => match d with | .tup (a :: b :: _) => D.tup [a, b] | _ => .none) (by simp [webD, hf, hs]) rfl (by simp; omega) rfl (by
    intro d hd
    obtain ⟨t, ht, rfl⟩ := List.mem_map.mp hd
    exact ⟨_, ⟨[some (webD false mm ts), p1, some (tieD t), none], μ⟩, rfl, by simp [tieD, cut2_3], by simp [wipeE]⟩)
  have e4 : (ts.map tieD).map (fun d => match d with | .tup (a :: b :: _) => D.tup [a, b] | _ => .none) = (ts.map prT).map pairD := by
    rw [List.map_map, List.map_map]; rfl
  rw [e4] at e3
  have e5 := fun o => lhang_ok (o := o) (μ := μ) (m := m) (mm := mm) (qs := ts.map prT) m1 hm h7 (fun p hp => by
    obtain ⟨t, ht, rfl⟩ := List.mem_map.mp hp
    have := w.T.ok t ht
    simp only [prT]; omega) (fun S s0 hS i i0 i1 => w.T.jn S s0 (fun t ht => hS (prT t) (List.mem_map_of_mem ht)) i i0 i1)
  have e6 : ixM (gP 0) (kst (.int 1)) ⟨[some (webD false mm ts), p1, p2, none], μ⟩ = some (.ok (.val (.int mm)), ⟨[some (webD false mm ts), p1, p2, none], μ⟩) := by simp [webD]
  show runB 4 (sq (ifS (orB (notB (tst (cliI isaD (argsC (gP 0) (argsC (kst (.ty "tuple")) args0))))) (orB (tst (binI neE (cliI lenD (argsC (gP 0) args0)) (kst (.int 3)))) (orB (notB (tst (cliI isaD (argsC (ixM (gP 0) (kst (.int 0))) (argsC (kst (.ty "str")) args0))))) (orB (tst (binI neE (ixM (gP 0) (kst (.int 0))) (kst (.str "web")))) (orB (notB (tst (DL.call F__law_is_whole (argsC (ixM (gP 0) (kst (.int 1))) args0)))) (notB (tst (chn leD leD (kst (.int 1)) (ixM (gP 0) (kst (.int 1))) (kst (.int 7)))))))))) (rtn (kst (.bool false))) skp) (sq (ifS (notB (tst (cliI isaD (argsC (ixM (gP 0) (kst (.int 2))) (argsC (kst (.ty "list")) args0))))) (rtn (kst (.bool false))) skp) (sq (forS (itE (argsC (ixM (gP 0) (kst (.int 2))) args0)) (toT 2 (tgsC (toN 1) (tgsC (toN 2) tgs0))) (sq lwB1 lwB2)) (rtn (DL.call F__law_hang (argsC (ixM (gP 0) (kst (.int 1))) (argsC (comp [2] (itS (ixM (gP 0) (kst (.int 2)))) (toN 2) tst1 (slM (gC 2) o0 (o1 (kst (.int 2))))) args0))))))) _ _ = _
  have hst : startE 4 [webD false mm ts] = [some (webD false mm ts), none, none, none] := rfl
  rw [runB, hst, sq_run h1, sq_run h2, sq_run ((forS_fix hi).trans e)]
  generalize (ts.map prT).map pairD = Q at e3 e5
  simp [↓e3, ↓e6, e5]
theorem hang_gen {o : Bool} {μ : Cells} {m mm : Int} {ts : List Tie} (w : Web m ts) : F_hang_together [.int mm, .lst o ((ts.map prT).map pairD)] μ = some (.ok (.bool (decide (m = mm))), μ) := by
  obtain ⟨ns, h1, h2⟩ := reached_spec (o := false) (μ := μ) (m := m) (qs := ts.map prT) w.m2 w.m1 (fun p hp => by
    obtain ⟨t, ht, rfl⟩ := List.mem_map.mp hp
    obtain ⟨a, b, c, _⟩ := w.T.ok t ht
    simp only [prT]; omega) (fun S h0 hS => w.T.jn S h0 fun t ht => hS (prT t) (List.mem_map_of_mem ht))
  have h3 := shares_pairs (ts.map prT)
  generalize hq : (ts.map prT).map pairD = q at h1 h3 ⊢
  simp [F_hang_together, m_hang_together, h1, h2, h3]
  rw [Bool.eq_iff_iff]; simp
theorem is_web_gen {μ : Cells} {m mm : Int} {ts : List Tie} (w : Web m ts) (hm : m ≤ mm) (h7 : mm ≤ 7) : F_is_web_by [webD false mm ts] μ = some (.ok (.bool (decide (m = mm))), μ) := by
  have hl := w.len
  have m1 := w.m1
  have m2 : 1 ≤ mm := by omega
  have e1 := all_map (own := [2]) (f := toN 2) (e := DL.call F_is_tie (argsC (gS 2) (argsC (ixM (gP 0) (kst (.int 1))) args0))) (src := itS (gS 1)) (s := ⟨[some (webD false mm ts), some (.lst false (ts.map tieD)), none, none], μ⟩) (s' := ⟨[some (webD false mm ts), some (.lst false (ts.map tieD)), none, none], μ⟩) (ds := ts.map tieD) (fun _ => true) (by simp [shares_ties]) (by simp; omega) rfl (by
    intro d hd
    obtain ⟨t, ht, rfl⟩ := List.mem_map.mp hd
    obtain ⟨a, b, c, d, e⟩ := w.T.ok t ht
    have h := is_tie_ok (t := t) (m := mm) (μ := μ) a b (by omega) d (by omega)
    exact ⟨_, ⟨[some (webD false mm ts), some (.lst false (ts.map tieD)), some (tieD t), none], μ⟩, rfl, by simp [webD, frees_ties, tie_share, h], by simp [wipeE]⟩)
  have e2 := ord_ok (μ := μ) (o0' := some (webD false mm ts)) (o2 := none) w
  have e3 := comp_map (own := [2]) (f := toN 2) (e := slM (gC 2) o0 (o1 (kst (.int 2)))) (src := itS (gS 1)) (s := ⟨[some (webD false mm ts), some (.lst false (ts.map tieD)), none, none], μ⟩) (s' := ⟨[some (webD false mm ts), some (.lst false (ts.map tieD)), none, none], μ⟩) (ds := ts.map tieD) (fun d => match d with | .tup (a :: b :: _) => .tup [a, b] | _ => .none) (by simp [shares_ties]) (by simp; omega) rfl (by
    intro d hd
    obtain ⟨t, ht, rfl⟩ := List.mem_map.mp hd
    exact ⟨_, ⟨[some (webD false mm ts), some (.lst false (ts.map tieD)), some (tieD t), none], μ⟩, rfl, by simp [tieD, cut2_3], by simp [wipeE]⟩)
  have e4 : (ts.map tieD).map (fun d => match d with | .tup (a :: b :: _) => D.tup [a, b] | _ => .none) = (ts.map prT).map pairD := by
    rw [List.map_map, List.map_map]; rfl
  rw [e4] at e3
  have e5 := fun o => hang_gen (o := o) (μ := μ) (mm := mm) w
  have e6 : (ts.map tieD).all (fun _ => true) = true := by simp
  rw [e6] at e1
  simp only [webD] at e1 e2 e3 ⊢
  generalize (ts.map prT).map pairD = q at e3 e5
  simp [F_is_web_by, m_is_web_by, frees_ties, shares_ties, ↓e1, ↓e2, ↓e3, e5, whole_int, h7, m2]
theorem jud_web {m mm : Int} {ts : List Tie} (w : Web m ts) (hm : m ≤ mm) (h7 : mm ≤ 7) : Jud (webD false mm ts) (decide (m = mm)) := ⟨fun _ => law_is_web_gen w hm h7, fun _ => is_web_gen w hm h7⟩
/-- all the odd values -/
def oddL (m : Int) (ts : List Tie) : List D :=
  [.none, .tup [], .lst false [.str "web", .int m, .lst false (ts.map tieD)], .tup [.str "Web", .int m, .lst false (ts.map tieD)], .tup [.str "web", .int m], wW (.int 0) (.lst false []), wW (.int 8) (.lst false (ts.map tieD)), wW (.bool true) (.lst false []), wW (.str (toString m)) (.lst false (ts.map tieD)),
   wW (.int m) (.tup (ts.map tieD)), .tup [.none, .int m, .lst false (ts.map tieD)],
   wW (.int (m + 1)) (.lst false (ts.map tieD)), wW (.int m) .none, wW (.int 2) (.lst false [t3 0 1 0]), wW (.int 2) (.lst false [t3 0 1 10]), wW (.int 2) (.lst false [t3 1 0 1]), wW (.int 2) (.lst false [.tup [.int 0, .int 1, .bool true]]), wW (.int 2) (.lst false [.tup [.int 0, .int 1]]),
   wW (.int 2) (.lst false [.lst false [.int 0, .int 1, .int 1]]), wW (.int 2) (.lst false [t3 0 2 1]), wW (.int 3) (.lst false [t3 1 2 1, t3 0 1 1]), wW (.int 2) (.lst false [t3 0 1 1, t3 0 1 2]),
   oddS, wW (.int 2) (.lst false [.tup [.bool false, .int 1, .int 1]])]
theorem jud_odd {m : Int} {ts : List Tie} (w : Web m ts) : ∀ v ∈ oddL m ts, Jud v false := by
  intro v hv
  have hC := jud_c v
  have hW := jud_w (ts := ts) w.m1 w.m2 v
  simp only [oddL, List.mem_cons, List.not_mem_nil, or_false] at hv
  rcases hv with h | h | h | h | h | h | h | h | h | h | h | h | h | h | h | h | h | h | h | h | h | h | h | h
  case inr.inr.inr.inr.inr.inr.inr.inr.inr.inl => rw [h]; exact jud_t w.m1 w.m2
  case inr.inr.inr.inr.inr.inr.inr.inr.inr.inr.inr.inl =>
    rw [h]
    by_cases h7 : m ≤ 6
    · have := jud_web (mm := m + 1) w (by omega) (by omega)
      have e : decide (m = m + 1) = false := by simp; omega
      rw [e] at this
      exact this
    · have e : m + 1 = 8 := by have := w.m2; omega
      rw [e]
      exact jud_w (m := m) (ts := ts) w.m1 w.m2 _ (by simp [oddW])
  case inr.inr.inr.inr.inr.inr.inr.inr.inr.inr.inr.inr.inr.inr.inr.inr.inr.inr.inr.inr.inr.inr.inl => rw [h]; exact jud_s
  all_goals first
    | (refine hC ?_; rw [h]; simp [oddC]; done)
    | (refine hW ?_; rw [h]; simp [oddW]; done)
theorem pick_ok {n k : Nat} {μ : Cells} {L : List D} (g : Gen n k μ) (hf : D.frees L = true) (h1 : 1 ≤ L.length) (h2 : L.length ≤ 1000) (hn : n < 900000000) :
    ∃ v μ', F__law_pick [.cell k, .lst false L] μ = some (.ok v, μ') ∧ v ∈ L ∧ Gen (n + 100) k μ' ∧ (∀ i, i ≠ k → μ'[i]? = μ[i]?) ∧ μ'.length = μ.length := by
  obtain ⟨r, μ', e, r0, r1, g', old, hl⟩ := rnd_gen g (b := (L.length : Int)) (by omega) (by omega) (by omega)
  have hr : r.toNat < L.length := by omega
  have ha : atI L r = some L[r.toNat] := by
    have := atI_of (xs := L) (k := r.toNat) (x := L[r.toNat]) (by simp [hr])
    rw [← this]; congr 1; omega
  have hfr : (L[r.toNat]).free = true := (D.frees_iff L).mp hf _ (List.getElem_mem hr)
  refine ⟨L[r.toNat], μ', ?_, List.getElem_mem hr, g', old, hl⟩
  generalize L[r.toNat] = v at ha hfr ⊢
  simp [F__law_pick, m__law_pick, e, ha, hfr, hf]
theorem oddL_frees (m : Int) (ts : List Tie) : D.frees (oddL m ts) = true := by
  have h := frees_ties ts
  rw [D.frees_iff]
  intro d hd
  simp only [oddL, List.mem_cons, List.not_mem_nil, or_false] at hd
  rcases hd with h | h | h | h | h | h | h | h | h | h | h | h | h | h | h | h | h | h | h | h | h | h | h | h <;> rw [h] <;> simp [wW, t3, oddS, D.free, D.frees, frees_ties]
theorem bad_web_ok {n k : Nat} {μ : Cells} {m : Int} {ts : List Tie} {o : Bool} (g : Gen n k μ) (w : Web m ts) (hn : n < 900000000) :
    ∃ v μ', F__law_bad_web [.cell k, webD o m ts] μ = some (.ok v, μ') ∧ v ∈ oddL m ts ∧ Gen (n + 100) k μ' ∧ (∀ i, i ≠ k → μ'[i]? = μ[i]?) ∧ μ'.length = μ.length := by
  obtain ⟨v, μ', e, hv, g', old, hl⟩ := pick_ok g (oddL_frees m ts) (by simp [oddL]) (by simp [oddL]) hn
  refine ⟨v, μ', ?_, hv, g', old, hl⟩
  have hs : strD [.int m] = some (.str (toString m)) := by
    have h1 := w.m1
    have h2 := w.m2
    have : m.natAbs < 1000000 := by omega
    simp [strD, this]
  have hf := frees_ties ts
  have hsh := shares_ties ts
  have hlen := w.len
  have hl2 : (ts.map tieD).length ≤ 16777216 := by rw [List.length_map]; omega
  simp only [oddL, oddS, wW, t3] at e
  unfold webD
  generalize (toString m : Str) = SM at hs e
  generalize ts.map tieD = TD at hf hsh e hl2 ⊢
  cases o <;> simp [F__law_bad_web, m__law_bad_web, hs, hf, hsh, hl2, sizeLine_eq, e, listD, tupleD, addD]
theorem tame_str {x : Str} (h : ((PyData.str x).leavesShort 13 && decide ((PyData.str x).bulk ≤ 3000) && decide ((PyData.str x).depth ≤ 2)) = true) : Tame 3000 2 (.str x) := by
  simp only [Bool.and_eq_true, decide_eq_true_eq] at h
  exact ⟨rfl, h.1.1, h.1.2, h.2⟩
theorem tame_ties {m : Int} {ts : List Tie} (w : Web m ts) : ∀ d ∈ ts.map tieD, Tame 3 1 d := fun d hd => by
  obtain ⟨t, ht, rfl⟩ := List.mem_map.mp hd
  have m2 := w.m2
  obtain ⟨a, b, c, e, f⟩ := w.T.ok t ht
  refine (Tame.tup (k := 0) (j := 0) (fun d hd => ?_) 3 (by simp)).mono (by omega) (by omega)
  simp only [List.mem_cons, List.not_mem_nil, or_false] at hd
  rcases hd with rfl | rfl | rfl
  · exact Tame.int (by omega) (by omega)
  · exact Tame.int (by omega) (by omega)
  · exact Tame.int (by omega) (by omega)
theorem tame_l {m : Int} {ts : List Tie} (w : Web m ts) (o : Bool) : Tame 3000 2 (.lst o (ts.map tieD)) := (Tame.lst (tame_ties w) 710 (by rw [List.length_map]; exact w.len)).mono (by omega) (by omega)
theorem tame_t {m : Int} {ts : List Tie} (w : Web m ts) : Tame 3000 2 (.tup (ts.map tieD)) := (Tame.tup (tame_ties w) 710 (by rw [List.length_map]; exact w.len)).mono (by omega) (by omega)
theorem tame_w : Tame 3000 2 (.str "web") := tame_str (by decide +kernel)
theorem tame_i {z : Int} (h : -100 ≤ z) (h2 : z ≤ 100) : Tame 3000 2 (.int z) := (Tame.int (by omega) (by omega)).mono (by omega) (Nat.le_refl 2)
theorem tame_3 {a b c : D} (ha : Tame 3000 2 a) (hb : Tame 3000 2 b) (hc : Tame 3000 2 c) : Tame 10000 3 (.tup [a, b, c]) := by
  refine (Tame.tup (k := 3000) (j := 2) (fun d hd => ?_) 3 (by simp)).mono (by omega) (Nat.le_refl 3)
  simp only [List.mem_cons, List.not_mem_nil, or_false] at hd
  rcases hd with rfl | rfl | rfl <;> assumption
theorem tame_web {m : Int} {ts : List Tie} (w : Web m ts) (o : Bool) : Tame 10000 3 (webD o m ts) := by
  have h1 := w.m1
  have h2 := w.m2
  exact tame_3 tame_w (tame_i (by omega) (by omega)) (tame_l w o)
def TameB (d : D) : Bool := d.shw && d.py.leavesShort 13 && decide (d.py.bulk ≤ 10000) && decide (d.py.depth ≤ 6)
theorem tameB_ok {d : D} (h : TameB d = true) : Tame 10000 6 d := by
  simp only [TameB, Bool.and_eq_true, decide_eq_true_eq] at h
  exact ⟨h.1.1.1, h.1.1.2, h.1.2, h.2⟩
theorem tame_c : ∀ v ∈ oddS :: oddC, TameB v = true := by
  intro v hv
  simp only [oddC, List.mem_cons, List.not_mem_nil, or_false] at hv
  rcases hv with rfl | rfl | rfl | rfl | rfl | rfl | rfl | rfl | rfl | rfl | rfl | rfl | rfl | rfl | rfl <;> decide +kernel
theorem tame_odd {m : Int} {ts : List Tie} (w : Web m ts) : ∀ v ∈ oddL m ts, Tame 20000 6 v := by
  intro v hv
  have m1 := w.m1
  have m2 := w.m2
  have hC := tame_c v
  have hi : Tame 3000 2 (.int m) := tame_i (by omega) (by omega)
  simp only [oddL, List.mem_cons, List.not_mem_nil, or_false] at hv
  rcases hv with h | h | h | h | h | h | h | h | h | h | h | h | h | h | h | h | h | h | h | h | h | h | h | h
  case inr.inr.inl =>
    rw [h]
    refine (Tame.lst (k := 3000) (j := 2) (fun d hd => ?_) 3 (by simp)).mono (by omega) (by omega)
    simp only [List.mem_cons, List.not_mem_nil, or_false] at hd
    rcases hd with rfl | rfl | rfl
    · exact tame_w
    · exact hi
    · exact tame_l w _
  case inr.inr.inr.inl => rw [h]; exact (tame_3 (tame_str (by decide +kernel)) hi (tame_l w _)).mono (by omega) (by omega)
  case inr.inr.inr.inr.inl =>
    rw [h]
    refine (Tame.tup (k := 3000) (j := 2) (fun d hd => ?_) 2 (by simp)).mono (by omega) (by omega)
    simp only [List.mem_cons, List.not_mem_nil, or_false] at hd
    rcases hd with rfl | rfl
    · exact tame_w
    · exact hi
  case inr.inr.inr.inr.inr.inr.inl => rw [h]; exact (tame_3 tame_w (tame_i (by omega) (by omega)) (tame_l w _)).mono (by omega) (by omega)
  case inr.inr.inr.inr.inr.inr.inr.inr.inl =>
    rw [h]
    have hs : Tame 3000 2 (.str (toString m)) := by
      rcases case17 m1 m2 with rfl | rfl | rfl | rfl | rfl | rfl | rfl <;> exact tame_str (by decide +kernel)
    exact (tame_3 tame_w hs (tame_l w _)).mono (by omega) (by omega)
  case inr.inr.inr.inr.inr.inr.inr.inr.inr.inl => rw [h]; exact (tame_3 tame_w hi (tame_t w)).mono (by omega) (by omega)
  case inr.inr.inr.inr.inr.inr.inr.inr.inr.inr.inl => rw [h]; exact (tame_3 (Tame.none.mono (by omega) (Nat.le_refl 2)) hi (tame_l w _)).mono (by omega) (by omega)
  case inr.inr.inr.inr.inr.inr.inr.inr.inr.inr.inr.inl => rw [h]; exact (tame_3 tame_w (tame_i (by omega) (by omega)) (tame_l w _)).mono (by omega) (by omega)
  case inr.inr.inr.inr.inr.inr.inr.inr.inr.inr.inr.inr.inl => rw [h]; exact (tame_3 tame_w hi (Tame.none.mono (by omega) (Nat.le_refl 2))).mono (by omega) (by omega)
  all_goals (refine (tameB_ok (hC ?_)).mono (by omega) (Nat.le_refl 6); rw [h]; simp [oddC])
inductive Exq (μ : Cells) : Nat → D → D → Prop
  | none {n : Nat} : Exq μ n .none .none
  | bool {n : Nat} (b : Bool) : Exq μ n (.bool b) (.bool b)
  | int {n : Nat} (z : Int) : Exq μ n (.int z) (.int z)
  | str {n : Nat} (x : Str) : Exq μ n (.str x) (.str x)
  | lst {n : Nat} {d e : D} {xs ys : List D} : Fw μ d xs → Fw μ e ys → xs.length = ys.length → (∀ (i : Nat) (a b : D), xs[i]? = some a → ys[i]? = some b → Exq μ n a b) → Exq μ (n + 1) d e
  | tup {n : Nat} {xs ys : List D} : D.frees xs = true → D.frees ys = true → xs.length ≤ 1000 → xs.length = ys.length → (∀ (i : Nat) (a b : D), xs[i]? = some a → ys[i]? = some b → Exq μ n a b) → Exq μ (n + 1) (.tup xs) (.tup ys)
/-- a list, a cell or a tuple -/
def Fv (μ : Cells) (d : D) (ds : List D) : Prop := ((∃ o, d = .lst o ds) ∨ (∃ k, d = .cell k ∧ μ[k]? = some ds) ∨ d = .tup ds) ∧ D.frees ds = true ∧ ds.length ≤ 1000
theorem Fw.fv {μ : Cells} {d : D} {ds : List D} (h : Fw μ d ds) : Fv μ d ds := ⟨h.1.elim .inl fun h => .inr (.inl h), h.2⟩
theorem fv_ix {μ : Cells} {d : D} {xs : List D} {i j k : Nat} {a : D} {s : Sg} (hm : s.μ = μ) (h : Fv μ d xs) (hj : s.ρ[j]? = some (some d)) (hk : s.ρ[k]? = some (some (.int (i : Int)))) (hi : xs[i]? = some a) : ixM (gP j) (gP k) s = some (.ok (.val a), s) := by
  obtain ⟨h1, h2, h3⟩ := h
  have ha := atI_of hi
  have hf : a.free = true := (D.frees_iff xs).mp h2 a (List.mem_of_getElem? hi)
  obtain ⟨ρ, μ'⟩ := s
  simp only at hm hj hk
  subst hm
  rcases h1 with ⟨o, rfl⟩ | ⟨c, rfl, hc⟩ | rfl
  · simp [hj, hk, ha, hf]
  · simp [hj, hk, ha, hc]
  · simp [hj, hk, ha, hf]
theorem fv_len {μ : Cells} {d : D} {xs : List D} {j : Nat} {s : Sg} (hm : s.μ = μ) (h : Fv μ d xs) (hj : s.ρ[j]? = some (some d)) : cliI lenD (argsC (gP j) args0) s = some (.ok (.val (.int (xs.length : Int))), s) := by
  obtain ⟨h1, h2, h3⟩ := h
  obtain ⟨ρ, μ'⟩ := s
  simp only at hm hj
  subst hm
  rcases h1 with ⟨o, rfl⟩ | ⟨c, rfl, hc⟩ | rfl
  · simp [hj]
  · simp [hj, hc]
  · simp [hj]
theorem exact_in {μ : Cells} {f : Fn} {d e : D} {xs ys : List D} (hd : Fv μ d xs) (he : Fv μ e ys) (hl : xs.length = ys.length) (hf : ∀ (i : Nat) (a b : D), xs[i]? = some a → ys[i]? = some b → f [a, b] μ = some (.ok (.bool true), μ)) :
    comp [2] (it1 (argsC (cliI lenD (argsC (gP 0) args0)) args0)) (toN 2) (notB (tst (DL.call f (argsC (ixM (gP 0) (gP 2)) (argsC (ixM (gP 1) (gP 2)) args0))))) (gS 2) ⟨[some d, some e, none], μ⟩ = some (.ok (.val (.lst true [])), ⟨[some d, some e, none], μ⟩) := by
  have hn := hd.2.2
  have hlen := fv_len (j := 0) (s := ⟨[some d, some e, none], μ⟩) rfl hd rfl
  have hi : it1 (argsC (cliI lenD (argsC (gP 0) args0)) args0) ⟨[some d, some e, none], μ⟩ = some (.ok (.fix (rng 0 (xs.length : Int).toNat)), ⟨[some d, some e, none], μ⟩) :=
    it1_of (l := [.val (.int (xs.length : Int))]) (by rw [argsC_ap, bnd_ap, hlen]; rfl) rfl ⟨by omega, by omega⟩
  have e0 := comp_fil (own := [2]) (f := toN 2) (t := notB (tst (DL.call f (argsC (ixM (gP 0) (gP 2)) (argsC (ixM (gP 1) (gP 2)) args0))))) (e := gS 2) (fun _ => none) hi (by rw [rng_len]; omega) rfl (by
    intro x hx
    obtain ⟨i, h⟩ := List.mem_iff_getElem?.mp hx
    obtain ⟨hi, rfl⟩ := rng_get h
    have h0 : ((0 : Int) + (i : Int)) = (i : Int) := by omega
    rw [h0]
    have hix : i < xs.length := by omega
    have hiy : i < ys.length := by omega
    have e1 := fv_ix (j := 0) (k := 2) (i := i) (a := xs[i]) (s := ⟨[some d, some e, some (.int (i : Int))], μ⟩) rfl hd rfl rfl (by simp [hix])
    have e2 := fv_ix (j := 1) (k := 2) (i := i) (a := ys[i]) (s := ⟨[some d, some e, some (.int (i : Int))], μ⟩) rfl he rfl rfl (by simp [hiy])
    have e3 := hf i xs[i] ys[i] (by simp [hix]) (by simp [hiy])
    generalize xs[i] = a at e1 e3
    generalize ys[i] = b at e2 e3
    exact ⟨⟨[some d, some e, some (.int (i : Int))], μ⟩, false, ⟨[some d, some e, some (.int (i : Int))], μ⟩, rfl, by simp [↓e1, ↓e2, e3], .inl ⟨rfl, rfl, rfl⟩⟩)
  have hfm : (rng 0 (xs.length : Int).toNat).filterMap (fun _ => (none : Option D)) = [] := by
    generalize rng 0 (xs.length : Int).toNat = L
    induction L with
    | nil => rfl
    | cons a l ih => simpa using ih
  rw [hfm] at e0
  exact e0
theorem exact_ok {μ : Cells} : ∀ {n : Nat} {d e : D} (k : Nat), Exq μ n d e → F__law_exact (n + 1 + k) [d, e] μ = some (.ok (.bool true), μ)
  | n, _, _, k, .none => by rw [Nat.add_right_comm]; rfl
  | n, _, _, k, .bool b => by rw [Nat.add_right_comm]; cases b <;> rfl
  | n, _, _, k, .int z => by
    rw [Nat.add_right_comm]
    have h1 : isD (.int z) .none = some (.bool false) := rfl
    simp [F__law_exact, m__law_exact, h1]
  | n, _, _, k, .str x => by
    rw [Nat.add_right_comm]
    have h1 : isD (.str x) .none = some (.bool false) := rfl
    simp [F__law_exact, m__law_exact, h1]
  | n + 1, d, e, k, .lst (xs := xs) (ys := ys) hd he hl hs => by
    have e0 := exact_in (f := F__law_exact (n + 1 + k)) hd.fv he.fv hl fun i a b ha hb => exact_ok k (hs i a b ha hb)
    have hn := eqE_nil true
    rw [Nat.add_right_comm]
    obtain ⟨h1, h2, h3⟩ := hd
    obtain ⟨g1, g2, g3⟩ := he
    have hbb : neE (.bool true) (.bool true) = some (.bool false) := rfl
    have hff : neE (.bool false) (.bool false) = some (.bool false) := rfl
    have hle : eqE (.int (ys.length : Int)) (.int (xs.length : Int)) = some (.bool true) := by rw [eqE_ii, hl]; simp
    clear hl hs h2 h3 g2 g3
    rcases h1 with ⟨o, rfl⟩ | ⟨c, rfl, hc⟩ <;> rcases g1 with ⟨o', rfl⟩ | ⟨c', rfl, hc'⟩ <;> simp [F__law_exact, m__law_exact, ↓e0, hbb, hff, hle, *]
  | n + 1, _, _, k, .tup (xs := xs) (ys := ys) hd he hn hl hs => by
    have e0 := exact_in (f := F__law_exact (n + 1 + k)) (d := .tup xs) (e := .tup ys) ⟨.inr (.inr rfl), hd, hn⟩ ⟨.inr (.inr rfl), he, by omega⟩ hl fun i a b ha hb => exact_ok k (hs i a b ha hb)
    rw [Nat.add_right_comm]
    have hbb : neE (.bool true) (.bool true) = some (.bool false) := rfl
    have hff : neE (.bool false) (.bool false) = some (.bool false) := rfl
    have hle : eqE (.int (ys.length : Int)) (.int (xs.length : Int)) = some (.bool true) := by rw [eqE_ii, hl]; simp
    simp [F__law_exact, m__law_exact, ↓e0, hbb, hff, hle]
def Exqs (μ : Cells) (n : Nat) : List D → List D → Prop
  | [], [] => True
  | a :: as, b :: bs => Exq μ n a b ∧ Exqs μ n as bs
  | _, _ => False
theorem exqs_ok {μ : Cells} {n : Nat} : ∀ {xs ys : List D}, Exqs μ n xs ys → xs.length = ys.length ∧ ∀ (i : Nat) (a b : D), xs[i]? = some a → ys[i]? = some b → Exq μ n a b
  | [], [], _ => ⟨rfl, fun i a b h => by simp at h⟩
  | [], _ :: _, h => h.elim
  | _ :: _, [], h => h.elim
  | x :: xs, y :: ys, h => by
    obtain ⟨h1, h2⟩ := exqs_ok h.2
    refine ⟨by simp [h1], fun i a b ha hb => ?_⟩
    cases i with
    | zero => simp at ha hb; subst ha hb; exact h.1
    | succ i => exact h2 i a b (by simpa using ha) (by simpa using hb)
theorem exqs_ll {μ : Cells} {n : Nat} {xs ys : List D} {o o' : Bool} (h : Exqs μ n xs ys) (h1 : D.frees xs = true) (h2 : D.frees ys = true) (hl : xs.length ≤ 1000) : Exq μ (n + 1) (.lst o xs) (.lst o' ys) := by
  obtain ⟨a, b⟩ := exqs_ok h
  exact .lst ⟨.inl ⟨o, rfl⟩, h1, hl⟩ ⟨.inl ⟨o', rfl⟩, h2, by omega⟩ a b
theorem tame_nc {k j : Nat} {v : D} (t : Tame k j v) : ∀ c, v ≠ .cell c := fun c h => by
  have := t.shw; subst h; cases this
theorem repr_pk {i k j : Nat} {s : Sg} {v : D} (h : s.ρ[i]? = some (some v)) (t : Tame k j v) (hk : k ≤ 1000000) (hj : j ≤ 60) : cliI reprD (argsC (gP i) args0) s = some (.ok (.val (.str v.py.shown)), s) := by
  have hr := t.rep hk hj
  have hc := tame_nc t
  have ha : (DL.It.pk i).ato s = some v := by
    unfold DL.It.ato
    have : (DL.It.pk i).at s.ρ = some v := by simp [DL.It.at, h]
    rw [this]
    cases v with
    | cell c => exact (hc c rfl).elim
    | _ => rfl
  have hg : gP i s = some (.ok (.pk i), s) := by rw [gP_ap, h]
  generalize v.py.shown = V at hr ⊢
  simp only [cliI_ap, argsC_ap, bnd_ap, hg, args0_ap, ret_ap, atAll, ha, hr]
theorem shrM_ap {s : Sg} (m : M DL.It) : shrM m s = bnd m (fun it s => match it with
  | .val d => some (.ok (.val d.share), s)
  | _ => none) s := rfl
theorem cliR_ap {s : Sg} (op : List D → Option D) (m : M (List DL.It)) : cliR op m s = bnd m (fun l s => match atrAll s l with
  | some ds => match op ds with
    | some z => some (.ok (.val z), s)
    | none => none
  | none => none) s := rfl
theorem thawD_ap {s : Sg} (m : M DL.It) : thawD m s = bnd m (fun it s => match it with
  | .val d => some (.ok (.val (d.thaw s.μ.length).1), ⟨s.ρ, s.μ ++ (d.thaw s.μ.length).2⟩)
  | _ => none) s := rfl
theorem re2 (a b : D) : reord [1, 0] [a, b] = [b, a] := rfl
theorem shr_free {v : D} (h : v.free = true) : v.share = v := by
  have := D.shares_of_frees [v] (by simpa [D.frees] using h)
  simpa [D.shares] using this
def oAll {α : Type} : List (Option α) → Option (List α)
  | [] => some []
  | o :: os => match o, oAll os with
    | some d, some ds => some (d :: ds)
    | _, _ => none
theorem oAll_cons {α : Type} {o : Option α} {os : List (Option α)} {l : List α} (h : oAll (o :: os) = some l) : ∃ d ds, o = some d ∧ oAll os = some ds ∧ l = d :: ds := by
  cases o with
  | none => simp [oAll] at h
  | some d =>
    cases hq : oAll os with
    | none => simp [oAll, hq] at h
    | some ds =>
      simp only [oAll, hq, Option.some.injEq] at h
      exact ⟨d, ds, rfl, rfl, h.symm⟩
theorem oAll_at {α β : Type} {f : α → Option β} : ∀ {xs : List α} {ys : List β}, oAll (xs.map f) = some ys → ys.length = xs.length ∧ ∀ (i : Nat) (x : α), xs[i]? = some x → ∃ y, ys[i]? = some y ∧ f x = some y
  | [], ys, h => by cases h; exact ⟨rfl, fun i x h => by simp at h⟩
  | a :: xs, ys, h => by
    rw [List.map_cons] at h
    obtain ⟨d, ds, h1, h2, rfl⟩ := oAll_cons h
    obtain ⟨g1, g2⟩ := oAll_at h2
    refine ⟨by simp [g1], fun i x hx => ?_⟩
    cases i with
    | zero => simp at hx; subst hx; exact ⟨d, rfl, h1⟩
    | succ i => obtain ⟨y, e1, e2⟩ := g2 i x (by simpa using hx); exact ⟨y, by simpa using e1, e2⟩
theorem optAll_of {f : D → Option D} : ∀ {xs : List D}, (∀ x ∈ xs, ∃ y, f x = some y) → ∃ ys, optAll (xs.map f) = some ys
  | [], _ => ⟨[], rfl⟩
  | x :: xs, h => by
    obtain ⟨y, hy⟩ := h x (by simp)
    obtain ⟨ys, hs⟩ := optAll_of (f := f) (xs := xs) fun z hz => h z (by simp [hz])
    exact ⟨y :: ys, by simp only [List.map_cons, optAll, hy, hs]⟩
/-- the cells within, as the law gathers them -/
def lsts (μ : Cells) : Nat → D → Option (List D)
  | 0, _ => none
  | n + 1, .cell c => match μ[c]? with
    | some xs => if D.frees xs then (oAll (xs.map (lsts μ n))).map fun l => .cell c :: l.flatten else none
    | none => none
  | n + 1, .tup xs => if D.frees xs then (oAll (xs.map (lsts μ n))).map List.flatten else none
  | _ + 1, .int _ => some []
  | _ + 1, .bool _ => some []
  | _ + 1, .str _ => some []
  | _ + 1, .none => some []
  | _, _ => none
theorem lsts_res {μ : Cells} : ∀ {n : Nat} {d : D} {L : List D} (j : Nat), lsts μ n d = some L → ∃ d', D.res μ (n + j) d = some d'
  | 0, _, _, _, h => by simp [lsts] at h
  | n + 1, d, L, j, h => by
    rw [Nat.add_right_comm]
    cases d with
    | cell c =>
      simp only [lsts] at h
      split at h
      · rename_i xs hc
        split at h
        · obtain ⟨Ls, h1, _⟩ := Option.map_eq_some_iff.mp h
          obtain ⟨ys, e⟩ := optAll_of (f := D.res μ (n + j)) (xs := xs) fun x hx => by
            obtain ⟨i, hi⟩ := List.mem_iff_getElem?.mp hx
            obtain ⟨l, _, hl⟩ := (oAll_at h1).2 i x hi
            exact lsts_res j hl
          exact ⟨_, by rw [D.res, hc]; simp only [e]; rfl⟩
        · cases h
      · cases h
    | tup xs =>
      simp only [lsts] at h
      split at h
      · obtain ⟨Ls, h1, _⟩ := Option.map_eq_some_iff.mp h
        obtain ⟨ys, e⟩ := optAll_of (f := D.res μ (n + j)) (xs := xs) fun x hx => by
          obtain ⟨i, hi⟩ := List.mem_iff_getElem?.mp hx
          obtain ⟨l, _, hl⟩ := (oAll_at h1).2 i x hi
          exact lsts_res j hl
        exact ⟨_, by rw [D.res, e]; rfl⟩
      · cases h
    | int z => exact ⟨_, rfl⟩
    | bool z => exact ⟨_, rfl⟩
    | str z => exact ⟨_, rfl⟩
    | none => exact ⟨_, rfl⟩
    | _ => simp [lsts] at h
theorem forD_run {f : Tgt} {b : M Fl} {it : Cells → Nat → Option D} {ds : List D} (I : Nat → Sg → Prop) (hit : ∀ i s j, I i s → it s.μ j = ds[j]?) : ∀ {n k : Nat} {s : Sg}, ds.length < n + k → k ≤ ds.length → I k s →
    (∀ i d s, ds[i]? = some d → I i s → ∃ s1 s2, f d s = some s1 ∧ b s1 = some (.ok .nx, s2) ∧ I (i + 1) s2) → ∃ s', forD f b it n k s = some (.ok .nx, s') ∧ I ds.length s'
  | 0, k, s, hn, hk, _, _ => by omega
  | n + 1, k, s, hn, hk, hi, st => by
    unfold forD
    rw [hit k s k hi]
    by_cases hlt : k < ds.length
    · rw [List.getElem?_eq_getElem hlt]
      obtain ⟨s1, s2, h1, h2, h3⟩ := st k _ s (List.getElem?_eq_getElem hlt) hi
      obtain ⟨s', h4, h5⟩ := forD_run I hit (n := n) (k := k + 1) (s := s2) (by omega) (by omega) h3 st
      exact ⟨s', by simp only [h1, h2, h4], h5⟩
    · have : k = ds.length := by omega
      subst this
      rw [List.getElem?_eq_none (Nat.le_refl _)]
      exact ⟨s, rfl, hi⟩
def lsB (f : Fn) : M Fl := (asg (binC addD (gC 1) (DL.call f (argsC (gS 2) args0))) (toN 1))
theorem flat_len : ∀ (Ls : List (List D)) (i : Nat), (Ls.take i).flatten.length ≤ Ls.flatten.length
  | [], i => by simp
  | l :: Ls, 0 => by simp
  | l :: Ls, i + 1 => by
    have := flat_len Ls i
    simp only [List.take_succ_cons, List.flatten_cons, List.length_append]; omega
def isCell : D → Bool
  | .cell _ => true
  | _ => false
theorem cells_share : ∀ {L : List D}, L.all isCell = true → D.shares L = L
  | [], _ => rfl
  | d :: L, h => by
    rw [List.all_cons, Bool.and_eq_true] at h
    cases d with
    | cell c => simp [D.shares, D.share, cells_share h.2]
    | _ => simp [isCell] at h
theorem cells_frees : ∀ {L : List D}, L.all isCell = true → D.frees L = true
  | [], _ => rfl
  | d :: L, h => by
    rw [List.all_cons, Bool.and_eq_true] at h
    cases d with
    | cell c => simp [D.frees, D.free, cells_frees h.2]
    | _ => simp [isCell] at h
theorem lsB_ok {f : Fn} {x0 : Option D} {μ : Cells} {acc l : List D} {x : D} (hx : x.free = true) (hf : f [x] μ = some (.ok (.lst true l), μ)) (ha : acc.all isCell = true) (hl : l.all isCell = true) (hn : acc.length + l.length ≤ 16777216) :
    lsB f ⟨[x0, some (.lst true acc), some x], μ⟩ = some (.ok .nx, ⟨[x0, some (.lst true (acc ++ l)), some x], μ⟩) := by
  have hs := shr_free hx
  have h1 := cells_share ha
  have h2 := cells_share hl
  have h3 := add_ll true false acc l hn
  have h4 := add_ll false false acc l hn
  have h5 := cells_frees ha
  simp [lsB, hs, hf, h1, h2, h3, h4, h5]
theorem forS_dyn {m : M Src} {f : Tgt} {b : M Fl} {n : Nat} {it : Cells → Nat → Option D} {s s' : Sg} (h : m s = some (.ok (.dyn n it), s')) : forS m f b s = forD f b it n 0 s' := by
  rw [forS_ap, bnd_ap, h]
theorem res_cell {μ : Cells} {n c : Nat} {d : D} (h : D.res μ n (.cell c) = some d) : ∃ ys, d = .lst true ys := by
  cases n with
  | zero => simp [D.res] at h
  | succ n =>
    simp only [D.res] at h
    split at h
    · obtain ⟨ys, _, rfl⟩ := Option.map_eq_some_iff.mp h
      exact ⟨ys, rfl⟩
    · cases h
theorem res_tup {μ : Cells} {n : Nat} {xs : List D} {d : D} (h : D.res μ n (.tup xs) = some d) : ∃ ys, d = .tup ys := by
  cases n with
  | zero => simp [D.res] at h
  | succ n =>
    simp only [D.res] at h
    obtain ⟨ys, _, rfl⟩ := Option.map_eq_some_iff.mp h
    exact ⟨ys, rfl⟩
theorem atr_pk {i : Nat} {s : Sg} {d d' : D} (h : s.ρ[i]? = some (some d)) (e : D.res s.μ 60 d = some d') : (DL.It.pk i).atr s = some d' := by
  unfold DL.It.atr
  have : (DL.It.pk i).at s.ρ = some d := by simp [DL.It.at, h]
  rw [this]; exact e
theorem atr_ty (t : String) (s : Sg) : (DL.It.val (.ty t)).atr s = some (.ty t) := rfl
theorem atr_lt (s : Sg) : (DL.It.val (.tup [.ty "list", .ty "tuple"])).atr s = some (.tup [.ty "list", .ty "tuple"]) := rfl
def lsA1 : M Fl := (asg (ifV (tst (cliR isaD (argsC (gP 0) (argsC (kst (.ty "list")) args0)))) (dspL (argsC (gS 0) args0)) (dspL args0)) (toN 1))
def lsI : M Src := (itS (ifV (tst (cliR isaTD (argsC (gP 0) (argsC (dspT (argsC (kst (.ty "list")) (argsC (kst (.ty "tuple")) args0))) args0)))) (gS 0) (dspL args0)))
theorem lists_atom {μ : Cells} {k : Nat} {d : D} (h : d = .none ∨ (∃ b, d = .bool b) ∨ (∃ z, d = .int z) ∨ ∃ x, d = .str x) : F__law_lists (k + 1) [d] μ = some (.ok (.lst true []), μ) := by
  rcases h with rfl | ⟨b, rfl⟩ | ⟨z, rfl⟩ | ⟨x, rfl⟩
  all_goals
    have e : ∀ d', D.res μ 60 d' = D.res μ (59 + 1) d' := fun _ => rfl
    simp only [F__law_lists, m__law_lists, runB, s_startE_1]
    rfl
theorem lists_ok {μ : Cells} : ∀ {n : Nat} {d : D} {L : List D} (k : Nat), n ≤ 60 → lsts μ n d = some L → L.length ≤ 10000 → L.all isCell = true ∧ F__law_lists (n + k) [d] μ = some (.ok (.lst true L), μ)
  | 0, _, _, _, _, h, _ => by simp [lsts] at h
  | n + 1, d, L, k, hn, h, hL => by
    rw [Nat.add_right_comm]
    obtain ⟨d', hr⟩ := lsts_res (59 - n) h
    have h60 : n + 1 + (59 - n) = 60 := by omega
    rw [h60] at hr
    cases d with
    | cell c =>
      simp only [lsts] at h
      split at h
      · rename_i xs hc
        split at h
        · rename_i hf
          obtain ⟨Ls, h1, rfl⟩ := Option.map_eq_some_iff.mp h
          obtain ⟨g1, g2⟩ := oAll_at h1
          obtain ⟨ys, rfl⟩ := res_cell hr
          have a1 := atr_pk (i := 0) (s := ⟨[some (.cell c), none, none], μ⟩) rfl hr
          have a2 := atr_pk (i := 0) (s := ⟨[some (.cell c), some (.lst true [.cell c]), none], μ⟩) rfl hr
          have e1 : lsA1 ⟨[some (.cell c), none, none], μ⟩ = some (.ok .nx, ⟨[some (.cell c), some (.lst true [.cell c]), none], μ⟩) := by
            simp [lsA1, cliR_ap, atrAll, a1, atr_ty]
          have hi : lsI ⟨[some (.cell c), some (.lst true [.cell c]), none], μ⟩ = some (.ok (.dyn (xs.length + 1) fun μ i => (μ[c]?).bind (·[i]?)), ⟨[some (.cell c), some (.lst true [.cell c]), none], μ⟩) := by
            simp [lsI, cliR_ap, atrAll, a2, atr_lt, hc]
          rw [List.length_cons] at hL
          have ih : ∀ (i : Nat) (x : D), xs[i]? = some x → ∃ l, Ls[i]? = some l ∧ l.all isCell = true ∧ F__law_lists (n + k) [x] μ = some (.ok (.lst true l), μ) := fun i x hx => by
            obtain ⟨l, e1, e2⟩ := g2 i x hx
            have hll : l.length ≤ Ls.flatten.length := by
              have := flat_len Ls (i + 1)
              rw [List.take_add_one, e1, List.flatten_append, List.length_append] at this
              simp at this; simp; omega
            obtain ⟨q1, q2⟩ := lists_ok k (by omega) e2 (by omega)
            exact ⟨l, e1, q1, q2⟩
          obtain ⟨s', e2, hcell, o2, rfl⟩ := forD_run (f := toN 2) (b := lsB (F__law_lists (n + k))) (it := fun μ i => (μ[c]?).bind (·[i]?)) (ds := xs)
            (fun i s => (Ls.take i).flatten.all isCell = true ∧ ∃ o2, s = ⟨[some (.cell c), some (.lst true (.cell c :: (Ls.take i).flatten)), o2], μ⟩) (fun i s j hi => by obtain ⟨_, o2, rfl⟩ := hi; simp [hc]) (n := xs.length + 1) (k := 0)
            (s := ⟨[some (.cell c), some (.lst true [.cell c]), none], μ⟩) (by omega) (by omega) ⟨rfl, none, rfl⟩ (by
            rintro i x s hx ⟨hal, o2, rfl⟩
            obtain ⟨l, e1, e2, e3⟩ := ih i x hx
            have hfl : (Ls.take (i + 1)).flatten = (Ls.take i).flatten ++ l := by rw [List.take_add_one, e1, List.flatten_append]; simp
            have hlen := flat_len Ls (i + 1)
            rw [hfl, List.length_append] at hlen
            have e4 := lsB_ok (x0 := some (.cell c)) (acc := .cell c :: (Ls.take i).flatten) ((D.frees_iff xs).mp hf x (List.mem_of_getElem? hx)) e3 (by simpa [isCell] using hal) e2 (by rw [List.length_cons]; omega)
            refine ⟨_, _, rfl, e4, by rw [hfl, List.all_append, hal, e2]; rfl, some x, ?_⟩
            rw [hfl]; rfl)
          have hx := List.take_length (l := Ls)
          rw [g1] at hx
          rw [hx] at e2 hcell
          refine ⟨by simpa [isCell] using hcell, ?_⟩
          have hm : m__law_lists (F__law_lists (n + k)) = sq lsA1 (sq (forS lsI (toN 2) (lsB (F__law_lists (n + k)))) (rtn (gM 1))) := rfl
          have h3 : startE 3 [D.cell c] = [some (.cell c), none, none] := rfl
          rw [F__law_lists, hm, runB, h3, sq_run e1, sq_run ((forS_dyn hi).trans e2)]
          rfl
        · cases h
      · cases h
    | tup xs =>
      simp only [lsts] at h
      split at h
      · rename_i hf
        obtain ⟨Ls, h1, rfl⟩ := Option.map_eq_some_iff.mp h
        obtain ⟨g1, g2⟩ := oAll_at h1
        obtain ⟨ys, rfl⟩ := res_tup hr
        have a1 := atr_pk (i := 0) (s := ⟨[some (.tup xs), none, none], μ⟩) rfl hr
        have a2 := atr_pk (i := 0) (s := ⟨[some (.tup xs), some (.lst true []), none], μ⟩) rfl hr
        have e1 : lsA1 ⟨[some (.tup xs), none, none], μ⟩ = some (.ok .nx, ⟨[some (.tup xs), some (.lst true []), none], μ⟩) := by
          simp [lsA1, cliR_ap, atrAll, a1, atr_ty]
        have hss : D.shares xs = xs := D.shares_of_frees _ hf
        have hi : lsI ⟨[some (.tup xs), some (.lst true []), none], μ⟩ = some (.ok (.fix xs), ⟨[some (.tup xs), some (.lst true []), none], μ⟩) := by
          simp [lsI, cliR_ap, atrAll, a2, atr_lt, hss]
        have ih : ∀ (i : Nat) (x : D), xs[i]? = some x → ∃ l, Ls[i]? = some l ∧ l.all isCell = true ∧ F__law_lists (n + k) [x] μ = some (.ok (.lst true l), μ) := fun i x hx => by
          obtain ⟨l, e1, e2⟩ := g2 i x hx
          have hll : l.length ≤ Ls.flatten.length := by
            have := flat_len Ls (i + 1)
            rw [List.take_add_one, e1, List.flatten_append, List.length_append] at this
            simp at this; simp; omega
          obtain ⟨q1, q2⟩ := lists_ok k (by omega) e2 (by omega)
          exact ⟨l, e1, q1, q2⟩
        obtain ⟨s', e2, hcell, o2, rfl⟩ := forL_run (f := toN 2) (b := lsB (F__law_lists (n + k)))
          (fun i s => (Ls.take i).flatten.all isCell = true ∧ ∃ o2, s = ⟨[some (.tup xs), some (.lst true (Ls.take i).flatten), o2], μ⟩) (ds := xs) (k := 0)
          (s := ⟨[some (.tup xs), some (.lst true []), none], μ⟩) ⟨rfl, none, rfl⟩ (by
          rintro i x s hx ⟨hal, o2, rfl⟩
          rw [Nat.zero_add] at hal ⊢
          obtain ⟨l, e1, e2, e3⟩ := ih i x hx
          have hfl : (Ls.take (i + 1)).flatten = (Ls.take i).flatten ++ l := by rw [List.take_add_one, e1, List.flatten_append]; simp
          have hlen := flat_len Ls (i + 1)
          rw [hfl, List.length_append] at hlen
          have e4 := lsB_ok (x0 := some (.tup xs)) (acc := (Ls.take i).flatten) ((D.frees_iff xs).mp hf x (List.mem_of_getElem? hx)) e3 hal e2 (by omega)
          refine ⟨_, _, rfl, .inl e4, by rw [hfl, List.all_append, hal, e2]; rfl, some x, ?_⟩
          rw [hfl])
        rw [Nat.zero_add, ← g1, List.take_length] at e2 hcell
        refine ⟨hcell, ?_⟩
        have hm : m__law_lists (F__law_lists (n + k)) = sq lsA1 (sq (forS lsI (toN 2) (lsB (F__law_lists (n + k)))) (rtn (gM 1))) := rfl
        have h3 : startE 3 [D.tup xs] = [some (.tup xs), none, none] := rfl
        rw [F__law_lists, hm, runB, h3, sq_run e1, sq_run ((forS_fix hi).trans e2)]
        rfl
      · cases h
    | int z => simp only [lsts, Option.some.injEq] at h; subst h; exact ⟨rfl, lists_atom (.inr (.inr (.inl ⟨z, rfl⟩)))⟩
    | bool z => simp only [lsts, Option.some.injEq] at h; subst h; exact ⟨rfl, lists_atom (.inr (.inl ⟨z, rfl⟩))⟩
    | str z => simp only [lsts, Option.some.injEq] at h; subst h; exact ⟨rfl, lists_atom (.inr (.inr (.inr ⟨z, rfl⟩)))⟩
    | none => simp only [lsts, Option.some.injEq] at h; subst h; exact ⟨rfl, lists_atom (.inl rfl)⟩
    | _ => simp [lsts] at h
def ownI : M Src := (it1 (argsC (cliI minD (argsC (kst (.int 6)) (argsC (cliI lenD (argsC (gP 4) args0)) args0))) args0))
def ownB : M Fl := (sq (asg (ixM (gP 4) (DL.call F__law_random (argsC (gS 0) (argsC (cliI lenD (argsC (gP 4) args0)) args0)))) (toN 6))
    (sq (drp (mtM appO 6 (argsC (kst (.str "mark")) args0)))
    (sq (ifS (orB (tst (binI neE (cntM (cliR reprD (argsC (gP 1) args0)) (kst (.str "'mark'"))) (kst (.int 1)))) (tst (binI neE (cliR reprD (argsC (gP 2) args0)) (gP 3)))) (rtn (kst (.bool false))) skp)
    (drp (mtM popO 6 args0)))))
/-- each list within may be marked -/
def Marks (μ : Cells) (told : D) (L : List D) : Prop := ∀ d ∈ L, ∃ c xs dm, d = .cell c ∧ μ[c]? = some xs ∧ xs.length ≤ 100000 ∧ D.res (μ.set c (xs ++ [.str "mark"])) 60 told = some dm ∧ Tame 900000 50 dm ∧ OneM dm.py.shown
theorem set_back {α : Type} {l : List α} {i : Nat} {x y : α} (h : l[i]? = some x) : (l.set i y).set i x = l := by
  rw [List.set_set]
  apply List.ext_getElem?
  intro j
  rw [List.getElem?_set]
  split
  · rename_i e; subst e
    split
    · exact h.symm
    · rename_i hl; rw [List.getElem?_eq_none (by omega)] at h; cases h
  · rfl
theorem reprR_pk {i : Nat} {s : Sg} {d d' : D} (h : s.ρ[i]? = some (some d)) (e : D.res s.μ 60 d = some d') (t : Tame 900000 50 d') : cliR reprD (argsC (gP i) args0) s = some (.ok (.val (.str d'.py.shown)), s) := by
  have hr := t.rep (by omega) (by omega)
  have ha := atr_pk h e
  have hg : gP i s = some (.ok (.pk i), s) := by rw [gP_ap, h]
  simp only [cliR_ap, argsC_ap, bnd_ap, hg, args0_ap, ret_ap, atrAll, ha, hr]
theorem ownB_ok {n k : Nat} {μ : Cells} {told given g' : D} {L : List D} {o5 o6 : Option D} (g : Gen n k μ) (hn : n < 900000000) (h1 : 1 ≤ L.length) (h2 : L.length ≤ 1000) (hall : L.all isCell = true)
    (hm : ∀ μ' : Cells, (∀ i, i ≠ k → μ'[i]? = μ[i]?) → Marks μ' told L) (hg : ∀ μ', D.res μ' 60 given = some g') (tg : Tame 900000 50 g') :
    ∃ c μ', ownB ⟨[some (.cell k), some told, some given, some (.str g'.py.shown), some (.lst true L), o5, o6], μ⟩ = some (.ok .nx, ⟨[some (.cell k), some told, some given, some (.str g'.py.shown), some (.lst true L), o5, some (.cell c)], μ'⟩) ∧
      Gen (n + 100) k μ' ∧ (∀ i, i ≠ k → μ'[i]? = μ[i]?) ∧ μ'.length = μ.length := by
  obtain ⟨r, μ1, e, r0, r1, g1, old, hl⟩ := rnd_gen g (b := (L.length : Int)) (by omega) (by omega) (by omega)
  have hr : r.toNat < L.length := by omega
  obtain ⟨c, xs, dm, hd, hc, hxs, hres, tm, one⟩ := hm μ1 old L[r.toNat] (List.getElem_mem hr)
  have ha : atI L r = some (.cell c) := by
    have := atI_of (xs := L) (k := r.toNat) (x := L[r.toNat]) (by simp [hr])
    rw [← hd, ← this]; congr 1; omega
  refine ⟨c, μ1, ?_, g1, old, hl⟩
  have hfr := cells_frees hall
  have hcl : c < μ1.length := (List.getElem?_eq_some_iff.mp hc).1
  have e1 : asg (ixM (gP 4) (DL.call F__law_random (argsC (gS 0) (argsC (cliI lenD (argsC (gP 4) args0)) args0)))) (toN 6) ⟨[some (.cell k), some told, some given, some (.str g'.py.shown), some (.lst true L), o5, o6], μ⟩ =
      some (.ok .nx, ⟨[some (.cell k), some told, some given, some (.str g'.py.shown), some (.lst true L), o5, some (.cell c)], μ1⟩) := by
    simp [e, ha]
  have hsz : xs.length < 16777216 := by omega
  have e2 : drp (mtM appO 6 (argsC (kst (.str "mark")) args0)) ⟨[some (.cell k), some told, some given, some (.str g'.py.shown), some (.lst true L), o5, some (.cell c)], μ1⟩ =
      some (.ok .nx, ⟨[some (.cell k), some told, some given, some (.str g'.py.shown), some (.lst true L), o5, some (.cell c)], μ1.set c (xs ++ [.str "mark"])⟩) := by
    simp [mtM, hc, appO, hsz]
  have hc2 : (μ1.set c (xs ++ [.str "mark"]))[c]? = some (xs ++ [.str "mark"]) := by simp [hcl]
  have hb := set_back (y := xs ++ [D.str "mark"]) hc
  have r1 := reprR_pk (i := 1) (s := ⟨[some (.cell k), some told, some given, some (.str g'.py.shown), some (.lst true L), o5, some (.cell c)], μ1.set c (xs ++ [.str "mark"])⟩) rfl hres tm
  have r2 := reprR_pk (i := 2) (s := ⟨[some (.cell k), some told, some given, some (.str g'.py.shown), some (.lst true L), o5, some (.cell c)], μ1.set c (xs ++ [.str "mark"])⟩) rfl (hg _) tg
  have hcn : Txt.count dm.py.shown "'mark'" = 1 := one.count
  generalize μ1.set c (xs ++ [D.str "mark"]) = μ2 at *
  generalize dm.py.shown = DM at *
  generalize g'.py.shown = GM at *
  have e3 : ifS (orB (tst (binI neE (cntM (cliR reprD (argsC (gP 1) args0)) (kst (.str "'mark'"))) (kst (.int 1)))) (tst (binI neE (cliR reprD (argsC (gP 2) args0)) (gP 3)))) (rtn (kst (.bool false))) skp ⟨[some (.cell k), some told, some given, some (.str GM), some (.lst true L), o5, some (.cell c)], μ2⟩ =
      some (.ok .nx, ⟨[some (.cell k), some told, some given, some (.str GM), some (.lst true L), o5, some (.cell c)], μ2⟩) := by
    simp [cntM, ↓r1, ↓r2, hcn]
  have e4 : drp (mtM popO 6 args0) ⟨[some (.cell k), some told, some given, some (.str GM), some (.lst true L), o5, some (.cell c)], μ2⟩ =
      some (.ok .nx, ⟨[some (.cell k), some told, some given, some (.str GM), some (.lst true L), o5, some (.cell c)], μ1⟩) := by
    simp [mtM, hc2, popO, hb]
  exact (sq_run e1).trans ((sq_run e2).trans ((sq_run e3).trans e4))
theorem own_ok {n k : Nat} {μ : Cells} {told given g' : D} {L : List D} (g : Gen n k μ) (hn : n < 800000000) (hs : told.share = told) (hL : lsts μ 12 told = some L) (h2 : L.length ≤ 1000)
    (hm : ∀ μ' : Cells, (∀ i, i ≠ k → μ'[i]? = μ[i]?) → Marks μ' told L) (hg : ∀ μ', D.res μ' 60 given = some g') (tg : Tame 900000 50 g') :
    ∃ μ', F__law_own [.cell k, told, given] μ = some (.ok (.bool true), μ') ∧ Gen (n + 600) k μ' ∧ (∀ i, i ≠ k → μ'[i]? = μ[i]?) ∧ μ'.length = μ.length := by
  obtain ⟨hall, hl⟩ := lists_ok 0 (by omega) hL (by omega)
  have hcs := cells_share hall
  have r2 := reprR_pk (i := 2) (s := ⟨[some (.cell k), some told, some given, none, none, none, none], μ⟩) rfl (hg _) tg
  have e1 : par2 3 4 (argsC (cliR reprD (argsC (gP 2) args0)) (argsC (DL.call (F__law_lists 12) (argsC (gS 1) args0)) args0)) ⟨[some (.cell k), some told, some given, none, none, none, none], μ⟩ =
      some (.ok .nx, ⟨[some (.cell k), some told, some given, some (.str g'.py.shown), some (.lst true L), none, none], μ⟩) := by
    generalize g'.py.shown = GM at *
    simp [↓r2, hs, hl]
  have hmin : minD [.int 6, .int (L.length : Int)] = some (.int (if (L.length : Int) < 6 then (L.length : Int) else 6)) := rfl
  generalize hq : (if (L.length : Int) < 6 then (L.length : Int) else 6) = q at hmin
  have hq6 : 0 ≤ q ∧ q ≤ 6 ∧ (L.length = 0 → q = 0) := by
    refine ⟨?_, ?_, ?_⟩ <;> (try intro h0) <;> (subst hq; split <;> omega)
  have hi : ownI ⟨[some (.cell k), some told, some given, some (.str g'.py.shown), some (.lst true L), none, none], μ⟩ = some (.ok (.fix (rng 0 q.toNat)), ⟨[some (.cell k), some told, some given, some (.str g'.py.shown), some (.lst true L), none, none], μ⟩) :=
    it1_of (l := [.val (.int q)]) (by simp [hmin]) rfl ⟨by omega, by omega⟩
  obtain ⟨s', e2, μ', o5, o6, rfl, g2, old2, hl2⟩ := forL_run (f := toN 5) (b := ownB)
    (fun i s => ∃ μ' o5 o6, s = ⟨[some (.cell k), some told, some given, some (.str g'.py.shown), some (.lst true L), o5, o6], μ'⟩ ∧ Gen (n + 100 * i) k μ' ∧ (∀ i, i ≠ k → μ'[i]? = μ[i]?) ∧ μ'.length = μ.length)
    (ds := rng 0 q.toNat) (k := 0) (s := ⟨[some (.cell k), some told, some given, some (.str g'.py.shown), some (.lst true L), none, none], μ⟩) ⟨μ, none, none, rfl, g, fun _ _ => rfl, rfl⟩ (by
      rintro i d s hd ⟨μ1, o5, o6, rfl, g1, old1, hl1⟩
      obtain ⟨hi, rfl⟩ := rng_get hd
      obtain ⟨c, μ2, e, g2, old2, hl2⟩ := ownB_ok (o5 := some (.int (0 + (i : Int)))) (o6 := o6) g1 (by omega) (by omega) h2 hall (fun μ' h => hm μ' fun j hj => by rw [h j hj, old1 j hj]) hg tg
      refine ⟨_, _, rfl, .inl e, μ2, _, _, rfl, g2.mono (by omega), fun j hj => by rw [old2 j hj, old1 j hj], by rw [hl2, hl1]⟩)
  refine ⟨μ', ?_, g2.mono (by rw [rng_len]; omega), old2, hl2⟩
  have hmm : m__law_own = sq (par2 3 4 (argsC (cliR reprD (argsC (gP 2) args0)) (argsC (DL.call (F__law_lists 12) (argsC (gS 1) args0)) args0))) (sq (forS ownI (toN 5) ownB) (rtn (kst (.bool true)))) := rfl
  have h3 : startE 7 [.cell k, told, given] = [some (.cell k), some told, some given, none, none, none, none] := rfl
  rw [F__law_own, hmm, runB, h3, sq_run e1, sq_run ((forS_fix hi).trans e2)]
  rfl
def D.atomic : D → Bool
  | .none => true
  | .bool _ => true
  | .int _ => true
  | .str _ => true
  | _ => false
inductive Tree (μ : Cells) : Nat → Nat → D → List D → Prop
  | atom {k j : Nat} {d : D} : D.atomic d = true → Tame k j d → NoM d.py.shown → Tree μ k j d []
  | cell {k j n c : Nat} {xs : List D} {Ls : List (List D)} : μ[c]? = some xs → D.frees xs = true → xs.length + 1 ≤ n → n ≤ 100000 → 4 ≤ k → Ls.length = xs.length → (∀ (i : Nat) (x : D) (l : List D), xs[i]? = some x → Ls[i]? = some l → Tree μ k j x l) → Tree μ (n * (k + 1)) (j + 1) (.cell c) (.cell c :: Ls.flatten)
  | tup {k j n : Nat} {xs : List D} {Ls : List (List D)} : D.frees xs = true → xs.length ≤ n → Ls.length = xs.length → (∀ (i : Nat) (x : D) (l : List D), xs[i]? = some x → Ls[i]? = some l → Tree μ k j x l) → Tree μ (n * (k + 1)) (j + 1) (.tup xs) Ls.flatten
  | mono {k j k' j' : Nat} {d : D} {L : List D} : Tree μ k j d L → k ≤ k' → j ≤ j' → Tree μ k' j' d L
structure TokF (μ : Cells) (k j f : Nat) (d : D) (L : List D) : Prop where
  res : ∃ d', D.res μ f d = some d' ∧ Tame k j d' ∧ NoM d'.py.shown ∧ ∀ (c : Nat) (ys : List D), .cell c ∉ L → D.res (μ.set c ys) f d = some d'
  ls : lsts μ f d = some L
  mrk : L.Nodup → ∀ c, .cell c ∈ L → ∃ xs dm, μ[c]? = some xs ∧ xs.length ≤ 100000 ∧ D.res (μ.set c (xs ++ [.str "mark"])) f d = some dm ∧ Tame k j dm ∧ OneM dm.py.shown
  all : L.all isCell = true
theorem optAll_cons (o : Option D) (os : List (Option D)) : optAll (o :: os) = match o, optAll os with
    | some d, some ds => some (d :: ds)
    | _, _ => none := rfl
theorem optAll_app {a b : List (Option D)} {x y : List D} (h1 : optAll a = some x) (h2 : optAll b = some y) : optAll (a ++ b) = some (x ++ y) := by
  induction a generalizing x with
  | nil => cases h1; exact h2
  | cons o a ih =>
    rw [optAll_cons] at h1
    split at h1
    · rename_i d ds h3 h4
      cases h1
      simp only [List.cons_append, optAll_cons, ih h4]
    · cases h1
structure ItemsF (μ : Cells) (k j f : Nat) (xs : List D) (Ls : List (List D)) : Prop where
  res : ∃ ds, optAll (xs.map (D.res μ f)) = some ds ∧ ds.length = xs.length ∧ (∀ d ∈ ds, Tame k j d ∧ NoM d.py.shown) ∧ ∀ (c : Nat) (ys : List D), .cell c ∉ Ls.flatten → optAll (xs.map (D.res (μ.set c ys) f)) = some ds
  ls : oAll (xs.map (lsts μ f)) = some Ls
  mrk : Ls.flatten.Nodup → ∀ c, .cell c ∈ Ls.flatten → ∃ ys a dm b, μ[c]? = some ys ∧ ys.length ≤ 100000 ∧ optAll (xs.map (D.res (μ.set c (ys ++ [.str "mark"])) f)) = some (a ++ dm :: b) ∧ (a ++ dm :: b).length = xs.length ∧ (∀ d ∈ a, Tame k j d ∧ NoM d.py.shown) ∧ (∀ d ∈ b, Tame k j d ∧ NoM d.py.shown) ∧ Tame k j dm ∧ OneM dm.py.shown
  all : Ls.flatten.all isCell = true
theorem items_ok {μ : Cells} {k j f : Nat} : ∀ {xs : List D} {Ls : List (List D)}, Ls.length = xs.length → (∀ (i : Nat) (x : D) (l : List D), xs[i]? = some x → Ls[i]? = some l → TokF μ k j f x l) → ItemsF μ k j f xs Ls
  | [], Ls, hl, h => by
    have : Ls = [] := List.eq_nil_of_length_eq_zero hl
    subst this
    exact ⟨⟨[], rfl, rfl, by simp, fun _ _ _ => rfl⟩, rfl, fun _ c hc => by simp at hc, rfl⟩
  | x :: xs, [], hl, h => by simp at hl
  | x :: xs, l :: Ls, hl, h => by
    have t := h 0 x l rfl rfl
    have ih := items_ok (xs := xs) (Ls := Ls) (by simpa using hl) fun i y m hy hm => h (i + 1) y m (by simpa using hy) (by simpa using hm)
    obtain ⟨d', r1, r2, r3, r4⟩ := t.res
    obtain ⟨ds, s1, s2, s3, s4⟩ := ih.res
    refine ⟨⟨d' :: ds, by simp only [List.map_cons, optAll_cons, r1, s1], by simp [s2], ?_, ?_⟩, by simp only [List.map_cons, oAll, t.ls, ih.ls], ?_, by rw [List.flatten_cons, List.all_append, t.all, ih.all]; rfl⟩
    · intro d hd
      rcases List.mem_cons.mp hd with rfl | hd
      · exact ⟨r2, r3⟩
      · exact s3 d hd
    · intro c ys hc
      rw [List.flatten_cons, List.mem_append, not_or] at hc
      simp only [List.map_cons, optAll_cons, r4 c ys hc.1, s4 c ys hc.2]
    · intro nd c hc
      rw [List.flatten_cons] at nd hc
      obtain ⟨n1, n2, n3⟩ := List.nodup_append.mp nd
      rcases List.mem_append.mp hc with hc | hc
      · obtain ⟨ys, dm, q1, q2, q3, q4, q5⟩ := t.mrk n1 c hc
        refine ⟨ys, [], dm, ds, q1, q2, ?_, by simp [s2], by simp, s3, q4, q5⟩
        simp only [List.map_cons, optAll_cons, q3, s4 c _ fun hx => n3 _ hc _ hx rfl, List.nil_append]
      · obtain ⟨ys, a, dm, b, q1, q2, q3, q4, q5, q6, q7, q8⟩ := ih.mrk n2 c hc
        refine ⟨ys, d' :: a, dm, b, q1, q2, ?_, by simpa using q4, ?_, q6, q7, q8⟩
        · simp only [List.map_cons, optAll_cons, q3, r4 c _ fun hx => n3 _ hx _ hc rfl, List.cons_append]
        · intro d hd
          rcases List.mem_cons.mp hd with rfl | hd
          · exact ⟨r2, r3⟩
          · exact q5 d hd
theorem mark_tame {j : Nat} : Tame 4 j (.str "mark") := ⟨rfl, by decide +kernel, by decide +kernel, by have : (D.str "mark").py.depth = 0 := by decide +kernel
                                                                                                       rw [this]; exact Nat.zero_le j⟩
theorem tree_ok {μ : Cells} {k j : Nat} {d : D} {L : List D} (h : Tree μ k j d L) : ∀ f, j + 1 ≤ f → TokF μ k j f d L := by
  induction h with
  | atom ha ht hn =>
    intro f hf
    obtain ⟨f, rfl⟩ : ∃ g, f = g + 1 := ⟨f - 1, by omega⟩
    rename_i d
    have e : ∀ μ, D.res μ (f + 1) d = some d := fun μ => by cases d <;> first | rfl | simp [D.atomic] at ha
    exact ⟨⟨d, e _, ht, hn, fun _ _ _ => e _⟩, by cases d <;> first | rfl | simp [D.atomic] at ha, fun _ c hc => by simp at hc, rfl⟩
  | mono h hk hj ih =>
    intro f hf
    obtain ⟨⟨d', r1, r2, r3, r4⟩, h2, h3, h4⟩ := ih f (by omega)
    refine ⟨⟨d', r1, r2.mono hk hj, r3, r4⟩, h2, fun nd c hc => ?_, h4⟩
    obtain ⟨ys, dm, q1, q2, q3, q4, q5⟩ := h3 nd c hc
    exact ⟨ys, dm, q1, q2, q3, q4.mono hk hj, q5⟩
  | @tup k j n xs Ls hf0 hn hl hs ih =>
    intro f hf
    obtain ⟨f, rfl⟩ : ∃ g, f = g + 1 := ⟨f - 1, by omega⟩
    obtain ⟨⟨ds, s1, s2, s3, s4⟩, t2, t3, t4⟩ := items_ok hl fun i x l hx hl => ih i x l hx hl f (by omega)
    refine ⟨⟨.tup ds, by rw [D.res, s1]; rfl, Tame.tup (fun d hd => (s3 d hd).1) n (by omega), ?_, fun c ys hc => by rw [D.res, s4 c ys hc]; rfl⟩, by simp only [lsts, hf0, if_true, t2]; rfl, ?_, t4⟩
    · rw [D.py, D.pys_map]
      refine tuple_no fun x hx => ?_
      obtain ⟨d, hd, rfl⟩ := List.mem_map.mp hx
      exact (s3 d hd).2
    · intro nd c hc
      obtain ⟨ys, a, dm, b, q1, q2, q3, q4, q5, q6, q7, q8⟩ := t3 nd c hc
      refine ⟨ys, .tup (a ++ dm :: b), q1, q2, by rw [D.res, q3]; rfl, Tame.tup (fun d hd => ?_) n (by omega), ?_⟩
      · rcases List.mem_append.mp hd with hd | hd
        · exact (q5 d hd).1
        · rcases List.mem_cons.mp hd with rfl | hd
          · exact q7
          · exact (q6 d hd).1
      · rw [D.py, D.pys_map, List.map_append, List.map_cons]
        refine tuple_one q8 (fun x hx => ?_) fun x hx => ?_
        · obtain ⟨d, hd, rfl⟩ := List.mem_map.mp hx
          exact (q5 d hd).2
        · obtain ⟨d, hd, rfl⟩ := List.mem_map.mp hx
          exact (q6 d hd).2
  | @cell k j n c xs Ls hc0 hf0 hn hn2 hk4 hl hs ih =>
    intro f hf
    obtain ⟨f, rfl⟩ : ∃ g, f = g + 1 := ⟨f - 1, by omega⟩
    obtain ⟨⟨ds, s1, s2, s3, s4⟩, t2, t3, t4⟩ := items_ok hl fun i x l hx hl => ih i x l hx hl f (by omega)
    have hcl : c < μ.length := (List.getElem?_eq_some_iff.mp hc0).1
    refine ⟨⟨.lst true ds, by rw [D.res, hc0]; simp only [s1]; rfl, Tame.lst (fun d hd => (s3 d hd).1) n (by omega), ?_, fun c' ys hc => ?_⟩, by simp only [lsts, hc0, hf0, if_true, t2]; rfl, ?_, by rw [List.all_cons, t4]; rfl⟩
    · rw [D.py, D.pys_map]
      refine list_no fun x hx => ?_
      obtain ⟨d, hd, rfl⟩ := List.mem_map.mp hx
      exact (s3 d hd).2
    · rw [List.mem_cons, not_or] at hc
      have hne : c' ≠ c := fun e => hc.1 (by rw [e])
      rw [D.res, List.getElem?_set_ne hne, hc0]
      simp only [s4 c' ys hc.2]; rfl
    · intro nd c' hc
      rw [List.nodup_cons] at nd
      rcases List.mem_cons.mp hc with hc | hc
      · cases hc
        have e1 := s4 c (xs ++ [.str "mark"]) nd.1
        obtain ⟨f', rfl⟩ | h0 : (∃ g, f = g + 1) ∨ f = 0 := by
          cases f with
          | zero => exact .inr rfl
          | succ g => exact .inl ⟨g, rfl⟩
        · have e2 : optAll ([D.str "mark"].map (D.res (μ.set c (xs ++ [.str "mark"])) (f' + 1))) = some [D.str "mark"] := rfl
          have e3 := optAll_app e1 e2
          refine ⟨xs, .lst true (ds ++ [.str "mark"]), hc0, by omega, ?_, Tame.lst (fun d hd => ?_) n (by simp; omega), ?_⟩
          · rw [D.res, List.getElem?_set_self hcl]
            simp only [List.map_append, e3]; rfl
          · rcases List.mem_append.mp hd with hd | hd
            · exact (s3 d hd).1
            · rw [List.mem_singleton] at hd; subst hd
              exact mark_tame.mono hk4 (Nat.le_refl j)
          · rw [D.py, D.pys_map, List.map_append]
            refine list_one (b := []) mark_one (fun x hx => ?_) (by simp)
            obtain ⟨d, hd, rfl⟩ := List.mem_map.mp hx
            exact (s3 d hd).2
        · omega
      · obtain ⟨ys, a, dm, b, q1, q2, q3, q4, q5, q6, q7, q8⟩ := t3 nd.2 c' hc
        have hne : c' ≠ c := fun e => nd.1 (by rw [← e]; exact hc)
        refine ⟨ys, .lst true (a ++ dm :: b), q1, q2, ?_, Tame.lst (fun d hd => ?_) n (by omega), ?_⟩
        · rw [D.res, List.getElem?_set_ne hne, hc0]
          simp only [q3]; rfl
        · rcases List.mem_append.mp hd with hd | hd
          · exact (q5 d hd).1
          · rcases List.mem_cons.mp hd with rfl | hd
            · exact q7
            · exact (q6 d hd).1
        · rw [D.py, D.pys_map, List.map_append, List.map_cons]
          refine list_one q8 (fun x hx => ?_) fun x hx => ?_
          · obtain ⟨d, hd, rfl⟩ := List.mem_map.mp hx
            exact (q5 d hd).2
          · obtain ⟨d, hd, rfl⟩ := List.mem_map.mp hx
            exact (q6 d hd).2
theorem shares_map {α : Type} (f : α → D) (l : List α) : D.shares (l.map f) = l.map fun x => (f x).share := by
  induction l with
  | nil => rfl
  | cons a l ih => simp [D.shares, ih]
theorem frees_ints (l : List Int) : D.frees (l.map .int) = true := (D.frees_iff _).mpr fun d hd => by
  obtain ⟨z, _, rfl⟩ := List.mem_map.mp hd; rfl
theorem tree_ints {μ : Cells} {c : Nat} {l : List Int} (h : μ[c]? = some (l.map .int)) (hl : l.length ≤ 9) (hb : ∀ x ∈ l, -999999999999 ≤ x ∧ x ≤ 999999999999) : Tree μ 50 1 (.cell c) [.cell c] := by
  have ht := Tree.cell (k := 4) (j := 0) (n := 10) (Ls := l.map fun _ => []) h (frees_ints l) (by rw [List.length_map]; omega) (by omega) (by omega) (by simp) (by
    intro i x y hx hy
    rw [List.getElem?_map, Option.map_eq_some_iff] at hx hy
    obtain ⟨z, hz, rfl⟩ := hx
    obtain ⟨_, _, rfl⟩ := hy
    have := hb z (List.mem_of_getElem? hz)
    exact .atom rfl ((Tame.int this.1 this.2).mono (by omega) (Nat.le_refl 0)) (int_no z))
  have hf : (l.map fun _ => ([] : List D)).flatten = [] := by
    clear h hl hb ht
    induction l with
    | nil => rfl
    | cons a l ih => simpa using ih
  rw [hf] at ht
  exact ht
theorem own_tree {n k kk j : Nat} {μ : Cells} {told given g' : D} {L : List D} (g : Gen n k μ) (hn : n < 800000000) (hs : told.share = told)
    (ht : ∀ μ' : Cells, (∀ i, i ≠ k → μ'[i]? = μ[i]?) → Tree μ' kk j told L) (nd : L.Nodup) (h2 : L.length ≤ 1000) (hkk : kk ≤ 900000) (hj : j ≤ 11) (hg : ∀ μ', D.res μ' 60 given = some g') (tg : Tame 900000 50 g') :
    ∃ μ', F__law_own [.cell k, told, given] μ = some (.ok (.bool true), μ') ∧ Gen (n + 600) k μ' ∧ (∀ i, i ≠ k → μ'[i]? = μ[i]?) ∧ μ'.length = μ.length := by
  refine own_ok g hn hs (tree_ok (ht μ fun _ _ => rfl) 12 (by omega)).ls h2 (fun μ' h d hd => ?_) hg tg
  have t := tree_ok (ht μ' h) 60 (by omega)
  have hc := List.all_eq_true.mp t.all d hd
  cases d with
  | cell c =>
    obtain ⟨xs, dm, q1, q2, q3, q4, q5⟩ := t.mrk nd c hd
    exact ⟨c, xs, dm, rfl, q1, q2, q3, q4.mono hkk (by omega), q5⟩
  | _ => simp [isCell] at hc
theorem Gen.keep {n k : Nat} {μ μ' : Cells} (g : Gen n k μ) (h : ∀ i, i < μ.length → μ'[i]? = μ[i]?) : Gen n k μ' := by
  obtain ⟨L, a, b⟩ := g
  exact ⟨L, by rw [h k (List.getElem?_eq_some_iff.mp a).1]; exact a, b⟩
theorem ties_res {μ : Cells} (n : Nat) : ∀ ts : List Tie, optAll ((ts.map tieD).map (D.res μ (n + 2))) = some (ts.map tieD)
  | [] => rfl
  | t :: ts => by
    have ih := ties_res (μ := μ) n ts
    have h : D.res μ (n + 2) (tieD t) = some (tieD t) := rfl
    simp only [List.map_cons, optAll_cons, h, ih]
theorem web_res {μ : Cells} (n : Nat) (o : Bool) (m : Int) (ts : List Tie) : D.res μ (n + 4) (webD o m ts) = some (webD true m ts) := by
  have h := ties_res (μ := μ) n ts
  have h2 : D.res μ (n + 3) (.lst o (ts.map tieD)) = some (.lst true (ts.map tieD)) := by
    rw [D.res, h]; rfl
  have h3 : D.res μ (n + 3) (.str "web") = some (.str "web") := rfl
  have h4 : D.res μ (n + 3) (.int m) = some (.int m) := rfl
  unfold webD
  rw [D.res]
  simp only [List.map_cons, List.map_nil, optAll_cons, h2, h3, h4]
  rfl
theorem many_ok {μ : Cells} {m : Int} {ts : List Tie} : F_many_in [webD false m ts] μ = some (.ok (.int m), μ) := by simp [F_many_in, m_many_in, webD, frees_ties]
theorem ties_in_ok {μ : Cells} {m : Int} {ts : List Tie} : F_ties_in [webD false m ts] μ = some (.ok (.lst false (ts.map tieD)), μ) := by
  simp [F_ties_in, m_ties_in, webD, frees_ties, shares_ties]
theorem bad_check {v : D} (hf : v.free = true) (j : Jud v false) (μ : Cells) : F_check_web [v] μ = some (.err "InvalidWeb" v, μ) := by
  have h2 := j.2 μ
  have hs := shr_free hf
  simp [F_check_web, m_check_web, hs, h2, rse, bnd, gS]
theorem no_web_ok {n k : Nat} {μ : Cells} {m : Int} {ts : List Tie} (g : Gen n k μ) (w : Web m ts) (hn : n < 900000000) :
    ∃ v μ', F__law_no_web [.cell k, webD false m ts] μ = some (.ok v, μ') ∧ v ∈ oddL m ts ∧ Gen (n + 100) k μ' := by
  obtain ⟨v, μ', e, hv, g', old, hl⟩ := bad_web_ok (o := false) g w hn
  have j := jud_odd w v hv
  have hf : v.free = true := (D.frees_iff _).mp (oddL_frees m ts) v hv
  have hs := shr_free hf
  have h1 := j.1 μ'
  exact ⟨v, μ', by simp [F__law_no_web, m__law_no_web, webS_share, e, hs, h1], hv, g'⟩
def gt0 (l : List Int) (v : Int) : Int := l.getD v.toNat 0
structure Row (m B : Int) (r : List Int) : Prop where
  len : (r.length : Int) = m
  bd : ∀ x ∈ r, -B ≤ x ∧ x ≤ B
theorem Row.mono {m B C : Int} {r : List Int} (h : Row m B r) (hb : B ≤ C) : Row m C r := ⟨h.len, fun x hx => by have := h.bd x hx; omega⟩
theorem Row.at {m B : Int} {r : List Int} (h : Row m B r) (hB : 0 ≤ B) (v : Int) : -B ≤ gt0 r v ∧ gt0 r v ≤ B := by
  unfold gt0
  rw [List.getD_eq_getElem?_getD]
  cases q : r[v.toNat]? with
  | none => simp; omega
  | some x => exact h.bd x (List.mem_of_getElem? q)
/-- an item: whole, or not -/
def wh (d : D) : Bool := match d with
  | .int _ => true
  | _ => false
theorem whole_wh {d : D} (h : ∀ c, d ≠ .cell c) (μ : Cells) (ht : d.tyn.isSome = true) : F_is_whole [d] μ = some (.ok (.bool (wh d)), μ) := by
  cases d with
  | cell c => exact (h c rfl).elim
  | exc _ _ => cases ht
  | fn _ => cases ht
  | ty _ => cases ht
  | _ => rfl
theorem cut1_len {r : List D} (h : 1 ≤ r.length) : (cutD r (some 1) none).length = r.length - 1 := by
  have h1 : HT.sIx r.length 0 (some 1) = 1 := by
    show (if (1 : Int) < 0 then ((1 : Int) + (r.length : Int)).toNat else min (1 : Int).toNat r.length) = 1
    rw [if_neg (by omega)]; show min 1 r.length = 1; omega
  unfold cutD
  rw [h1, HT.sIx_none, List.length_take, List.length_drop]; omega
theorem comp_filw {own : List Nat} {src : M Src} {f : Tgt} {t : M Bool} {e : M DL.It} {s s0 s' : Sg} {ds : List D} (p : D → Option D) (hi : src s = some (.ok (.fix ds), s0)) (hw0 : (⟨wipeE s0.ρ own, s0.μ⟩ : Sg) = s') (hl : ds.length ≤ 16777216) (hw : (⟨wipeE s'.ρ own, s'.μ⟩ : Sg) = s')
    (h : ∀ d ∈ ds, ∃ s1 b s2, f d s' = some s1 ∧ t s1 = some (.ok b, s2) ∧ ((b = false ∧ p d = none ∧ (⟨wipeE s2.ρ own, s2.μ⟩ : Sg) = s') ∨ (b = true ∧ ∃ y s3, p d = some y ∧ e s2 = some (.ok (.val y), s3) ∧ (⟨wipeE s3.ρ own, s3.μ⟩ : Sg) = s'))) :
    comp own src f t e s = some (.ok (.val (.lst true (ds.filterMap p))), s') := by
  have hl' : ds.length ≤ sizeLine := by rw [sizeLine_eq]; exact hl
  rw [comp_ap, bnd_ap, hi]
  simp only [hw0, if_pos hl', compL_pure p h, List.nil_append]
theorem comp_ints {own : List Nat} {src : M Src} {f : Tgt} {e : M DL.It} {s s' : Sg} {l : List Int} (g : Int → D) (hi : src s = some (.ok (.fix (l.map .int)), s')) (hl : l.length ≤ 16777216) (hw : (⟨wipeE s'.ρ own, s'.μ⟩ : Sg) = s')
    (h : ∀ z ∈ l, ∃ s1 s3, f (.int z) s' = some s1 ∧ e s1 = some (.ok (.val (g z)), s3) ∧ (⟨wipeE s3.ρ own, s3.μ⟩ : Sg) = s') :
    comp own src f tst1 e s = some (.ok (.val (.lst true (l.map g))), s') := by
  have e1 := comp_filw (own := own) (f := f) (t := tst1) (e := e) (fun d => match d with | D.int z => some (g z) | _ => none) hi hw (by rw [List.length_map]; exact hl) hw (fun d hd => by
    obtain ⟨z, hz, rfl⟩ := List.mem_map.mp hd
    obtain ⟨s1, s3, h1, h2, h3⟩ := h z hz
    exact ⟨s1, true, s1, h1, rfl, .inr ⟨rfl, _, s3, rfl, h2, h3⟩⟩)
  rw [List.filterMap_map] at e1
  have e2 : l.filterMap ((fun d => match d with | D.int z => some (g z) | _ => none) ∘ D.int) = l.map g := by
    show l.filterMap (fun z => some (g z)) = _
    rw [List.filterMap_eq_map']
  rw [e2] at e1
  exact e1
theorem sq_err {a b : M Fl} {s s' : Sg} {c : Str} {v : D} (h : a s = some (.err c v, s')) : sq a b s = some (.err c v, s') := by rw [sq_ap, h]
theorem runB_err {n : Nat} {B : M Fl} {ds : List D} {μ : Cells} {c : Str} {v : D} (s' : Sg) (h : B ⟨startE n ds, μ⟩ = some (.err c v, s')) : runB n B ds μ = some (.err c v, s'.μ) := by
  rw [runB, h]
theorem negi1' : negD (.int 1) = some (.int (-1)) := rfl
def exB : Nat → D → Bool
  | _, .none => true
  | _, .bool _ => true
  | _, .int _ => true
  | _, .str _ => true
  | n + 1, .lst _ xs => decide (xs.length ≤ 1000) && D.frees xs && xs.all (exB n)
  | n + 1, .tup xs => decide (xs.length ≤ 1000) && D.frees xs && xs.all (exB n)
  | _, _ => false
theorem exq_refl {μ : Cells} : ∀ (n : Nat) (d : D), exB n d = true → Exq μ n d d := by
  intro n
  induction n with
  | zero =>
    intro d h
    cases d with
    | none => exact .none
    | bool b => exact .bool b
    | int z => exact .int z
    | str x => exact .str x
    | _ => simp [exB] at h
  | succ n ih =>
    intro d h
    cases d with
    | none => exact .none
    | bool b => exact .bool b
    | int z => exact .int z
    | str x => exact .str x
    | lst o xs =>
      simp only [exB, Bool.and_eq_true, decide_eq_true_eq, List.all_eq_true] at h
      exact .lst ⟨.inl ⟨o, rfl⟩, h.1.2, h.1.1⟩ ⟨.inl ⟨o, rfl⟩, h.1.2, h.1.1⟩ rfl fun i a b ha hb => by
        rw [ha] at hb; cases hb
        exact ih a (h.2 a (List.mem_of_getElem? ha))
    | tup xs =>
      simp only [exB, Bool.and_eq_true, decide_eq_true_eq, List.all_eq_true] at h
      exact .tup h.1.2 h.1.2 h.1.1 rfl fun i a b ha hb => by
        rw [ha] at hb; cases hb
        exact ih a (h.2 a (List.mem_of_getElem? ha))
    | _ => simp [exB] at h
theorem exB_ties (n : Nat) (ts : List Tie) : (ts.map tieD).all (exB (n + 1)) = true := by
  rw [List.all_eq_true]; intro d hd
  obtain ⟨t, _, rfl⟩ := List.mem_map.mp hd
  simp [tieD, exB, D.frees, D.free]
theorem exB_web {m : Int} {ts : List Tie} (n : Nat) (o : Bool) (ho : o = false) (h : ts.length ≤ 1000) : exB (n + 3) (webD o m ts) = true := by
  subst ho
  have h1 := exB_ties n ts
  have h2 := frees_ties ts
  simp [webD, exB, D.frees, D.free, h1, h2, h]
theorem exq_ties {μ : Cells} {n : Nat} {d e : D} {ts : List Tie} (h1 : Fw μ d (ts.map tieD)) (h2 : Fw μ e (ts.map tieD)) : Exq μ (n + 2) d e :=
  .lst h1 h2 rfl fun i a b ha hb => by
    rw [ha] at hb; cases hb
    exact exq_refl (n + 1) a (List.all_eq_true.mp (exB_ties n ts) a (List.mem_of_getElem? ha))
/-- a web whose ties are a cell -/
def webC (m : Int) (k : Nat) : D := .tup [.str "web", .int m, .cell k]
theorem exq_webC {μ : Cells} {n k : Nat} {m : Int} {ts : List Tie} (hk : μ[k]? = some (ts.map tieD)) (h : ts.length ≤ 1000) : Exq μ (n + 3) (webD false m ts) (webC m k) := by
  have hl : (ts.map tieD).length ≤ 1000 := by rw [List.length_map]; exact h
  refine .tup (by simp [D.frees, D.free, frees_ties]) (by simp [D.frees, D.free]) (by simp) rfl fun i a b ha hb => ?_
  match i with
  | 0 => cases ha; cases hb; exact .str _
  | 1 => cases ha; cases hb; exact .int _
  | 2 => cases ha; cases hb; exact exq_ties ⟨.inl ⟨_, rfl⟩, frees_ties ts, hl⟩ ⟨.inr ⟨_, rfl, hk⟩, frees_ties ts, hl⟩
  | i + 3 => simp at ha
theorem tree_tie {μ : Cells} (t : Tie) (h : -999999999999 ≤ t.1 ∧ t.1 ≤ 999999999999 ∧ -999999999999 ≤ t.2.1 ∧ t.2.1 ≤ 999999999999 ∧ -999999999999 ≤ t.2.2 ∧ t.2.2 ≤ 999999999999) : Tree μ 15 1 (tieD t) [] := by
  have ht := Tree.tup (μ := μ) (k := 4) (j := 0) (n := 3) (xs := [.int t.1, .int t.2.1, .int t.2.2]) (Ls := [[], [], []]) (by simp [D.frees, D.free]) (by simp) rfl (by
    intro i x y hx hy
    match i with
    | 0 => cases hx; cases hy; exact .atom rfl ((Tame.int h.1 h.2.1).mono (by omega) (Nat.le_refl 0)) (int_no _)
    | 1 => cases hx; cases hy; exact .atom rfl ((Tame.int h.2.2.1 h.2.2.2.1).mono (by omega) (Nat.le_refl 0)) (int_no _)
    | 2 => cases hx; cases hy; exact .atom rfl ((Tame.int h.2.2.2.2.1 h.2.2.2.2.2).mono (by omega) (Nat.le_refl 0)) (int_no _)
    | i + 3 => simp at hx)
  exact ht
theorem flat_nils {α β : Type} (l : List α) : (l.map fun _ => ([] : List β)).flatten = [] := by
  induction l with
  | nil => rfl
  | cons a l ih => simpa using ih
theorem tree_tiesC {μ : Cells} {c : Nat} {ts : List Tie} (h : μ[c]? = some (ts.map tieD)) (hl : ts.length ≤ 710) (hb : ∀ t ∈ ts, -999999999999 ≤ t.1 ∧ t.1 ≤ 999999999999 ∧ -999999999999 ≤ t.2.1 ∧ t.2.1 ≤ 999999999999 ∧ -999999999999 ≤ t.2.2 ∧ t.2.2 ≤ 999999999999) : Tree μ 16000 2 (.cell c) [.cell c] := by
  have ht := Tree.cell (k := 15) (j := 1) (n := 1000) (Ls := ts.map fun _ => []) h (frees_ties ts) (by rw [List.length_map]; omega) (by omega) (by omega) (by simp) (by
    intro i x y hx hy
    rw [List.getElem?_map, Option.map_eq_some_iff] at hx hy
    obtain ⟨t, ht, rfl⟩ := hx
    obtain ⟨_, _, rfl⟩ := hy
    exact tree_tie t (hb t (List.mem_of_getElem? ht)))
  rw [flat_nils] at ht
  exact ht
theorem ties_thaw : ∀ (l : List Tie) (n : Nat), D.thaws (l.map tieD) n = (l.map tieD, [])
  | [], _ => rfl
  | z :: l, n => by
    have := ties_thaw l n
    simp only [List.map_cons, tieD] at this ⊢
    simp only [D.thaws, D.thaw, this, List.length_nil, Nat.add_zero, List.append_nil]
theorem web_thaw (o : Bool) (ho : o = true) (m : Int) (ts : List Tie) (n : Nat) : (webD o m ts).thaw n = (webC m n, [ts.map tieD]) := by
  subst ho
  have h := ties_thaw ts n
  generalize hT : ts.map tieD = T at *
  simp [webD, webC, D.thaw, D.thaws, hT, h]
def rowF (r : List Int) : D := .lst false (r.map .int)
def rowT (r : List Int) : D := .lst true (r.map .int)
def nextR (m : Int) (r : List Int) : List (List Int) := ((ups m).filter fun p => !decide (p ∈ r)).map fun p => r ++ [p]
def ordL (m : Int) : Nat → List (List Int)
  | 0 => [[]]
  | k + 1 => (ordL m k).flatMap (nextR m)
theorem ordL_ok {m : Int} : ∀ {k : Nat} {r : List Int}, r ∈ ordL m k → r.length = k ∧ r.Nodup ∧ ∀ x ∈ r, 0 ≤ x ∧ x < m
  | 0, r, h => by
    have : r = [] := by simpa [ordL] using h
    subst this; simp
  | k + 1, r, h => by
    simp only [ordL, List.mem_flatMap, nextR, List.mem_map, List.mem_filter] at h
    obtain ⟨q, hq, p, ⟨hp1, hp2⟩, rfl⟩ := h
    obtain ⟨a, b, c⟩ := ordL_ok hq
    have hp : p ∉ q := by simpa using hp2
    refine ⟨by rw [List.length_append, a]; rfl, ?_, fun x hx => ?_⟩
    · rw [List.nodup_append]
      exact ⟨b, by simp, fun x hx y hy e => by simp at hy; subst hy; exact hp (e ▸ hx)⟩
    · rcases List.mem_append.mp hx with hx | hx
      · exact c x hx
      · simp at hx; subst hx; exact ups_mem.mp hp1
theorem shares_rowsF (R : List (List Int)) : D.shares (R.map rowF) = R.map rowF := by
  rw [D.shares_map, List.map_map]
  apply List.map_congr_left
  intro r _
  show D.lst false (D.shares (r.map .int)) = _
  rw [shares_ints]; rfl
theorem frees_rows (R : List (List Int)) : D.frees (R.map rowF) = true := by
  rw [← shares_rowsF]; exact D.frees_shares _
def at1 (o : List Int) (v : Int) : Int := ((o.findIdx (· == v) : Nat) : Int)
def renT (ts : List Tie) (o : List Int) : List Tie := ts.map fun t => (at1 o t.1, at1 o t.2.1, t.2.2)
theorem ixL_ap (m : M DL.It) (n : M (List DL.It)) (s : Sg) : ixL m n s = bnd m (fun i s =>
  match i with
  | .val (.lst false ds) => bnd n (fun l s => match vals? l with
    | some es => match idxO ds es with
      | some z => some (.ok (.val z), s)
      | none => none
    | none => none) s
  | _ => none) s := rfl
theorem idx_ok {o : List Int} {v : Int} (h : v ∈ o) : idxO (o.map D.int) [.int v] = some (.int (at1 o v)) := by
  unfold idxO
  rw [intsD_map]
  have : o.findIdx? (· == v) = some (o.findIdx (· == v)) := List.findIdx?_eq_some_of_exists ⟨v, h, by simp⟩
  simp only [this, Option.map_some]
  rfl
theorem eqv_ties : ∀ a b : List Tie, PyData.eqvAll (D.pys (a.map tieD)) (D.pys (b.map tieD)) = decide (a = b)
  | [], [] => rfl
  | [], _ :: _ => rfl
  | _ :: _, [] => rfl
  | (x1, x2, x3) :: a, (y1, y2, y3) :: b => by
    simp only [List.map_cons, tieD, D.pys, D.py, PyData.eqvAll, PyData.eqv, eqv_ties a b]
    by_cases h1 : x1 = y1 <;> by_cases h2 : x2 = y2 <;> by_cases h3 : x3 = y3 <;> by_cases h : a = b <;> simp [h1, h2, h3, h]
theorem lows_ties' (n : Nat) (ts : List Tie) : D.lows (n + 2) (ts.map tieD) = true := by
  rw [D.lows_iff]; intro d hd; obtain ⟨⟨x, y, z⟩, _, rfl⟩ := List.mem_map.mp hd
  cases n <;> rfl
theorem eqv_webs (o o' : Bool) (m n : Int) (ts us : List Tie) : PyData.eqv (webD o m ts).py (webD o' n us).py = decide (m = n ∧ ts = us) := by
  simp only [webD, D.py, D.pys, PyData.eqv, PyData.eqvAll, eqv_ties]
  by_cases h1 : m = n <;> by_cases h2 : ts = us <;> simp [h1, h2]
theorem low_web (o : Bool) (m : Int) (ts : List Tie) : D.low 60 (webD o m ts) = true := by
  show D.lows 59 [.str "web", .int m, .lst o (ts.map tieD)] = true
  rw [D.lows_iff]
  intro d hd
  simp only [List.mem_cons, List.not_mem_nil, or_false] at hd
  rcases hd with rfl | rfl | rfl
  · decide +kernel
  · rfl
  · exact lows_ties' 56 ts
theorem eq_ties (o o' : Bool) (ts us : List Tie) : eqE (.lst o (ts.map tieD)) (.lst o' (us.map tieD)) = some (.bool (decide (ts = us))) := by
  apply eqE_of
  have h1 : D.low 60 (.lst o (ts.map tieD)) = true := lows_ties' 57 ts
  have h2 : D.low 60 (.lst o' (us.map tieD)) = true := lows_ties' 57 us
  simp only [eqD, h1, h2, Bool.and_self, if_true, D.py, PyData.eqv, eqv_ties]
theorem eq_webs (o o' : Bool) (m n : Int) (ts us : List Tie) : eqE (webD o m ts) (webD o' n us) = some (.bool (decide (m = n ∧ ts = us))) := by
  apply eqE_of
  simp only [eqD, low_web, Bool.and_self, if_true, eqv_webs]
theorem case15 {m : Int} (h1 : 1 ≤ m) (h2 : m ≤ 5) : m = 1 ∨ m = 2 ∨ m = 3 ∨ m = 4 ∨ m = 5 := by omega
theorem orders7 {μ : Cells} {m : Int} (h1 : 1 ≤ m) (h2 : m ≤ 5) : F_orders_of [.int m] μ = some (.ok (.lst true ((ordL m m.toNat).map rowT)), μ) := by
  rcases case15 h1 h2 with rfl | rfl | rfl | rfl | rfl <;> kernel_rfl
theorem lall7 {μ : Cells} {m : Int} (h1 : 1 ≤ m) (h2 : m ≤ 5) : F__law_all [.int m] μ = some (.ok (.lst true ((ordL m m.toNat).map rowF)), μ) := by
  rcases case15 h1 h2 with rfl | rfl | rfl | rfl | rfl <;> kernel_rfl
theorem ixV_ap (m : M DL.It) (n : M (List DL.It)) (s : Sg) : ixV m n s = bnd m (fun i s =>
  match i with
  | .val d => match DL.view d s.μ with
    | some _ => bnd n (fun l s => match vals? l, DL.view d s.μ with
      | some es, some ds => match idxO ds es with
        | some z => some (.ok (.val z), s)
        | none => none
      | _, _ => none) s
    | none => none
  | _ => none) s := rfl
theorem ren_comp {μ : Cells} {m : Int} {ts : List Tie} {o : List Int} {d : D} (w : Web m ts) (ho : ∀ v, 0 ≤ v → v < m → v ∈ o) (hs : d.share = d) (hv : DL.view d μ = some (o.map .int)) :
    F_renamed_by [webD false m ts, d] μ = some (.ok (webD true m (made (renT ts o))), μ) := by
  have hl := w.len
  have k1 := many_ok (μ := μ) (m := m) (ts := ts)
  have l1 := ties_in_ok (μ := μ) (m := m) (ts := ts)
  have sh1 := shares_ties ts
  have e2 := comp_map (own := [3, 4, 5]) (src := itS (DL.call F_ties_in (argsC (gS 0) args0))) (f := toT 3 (tgsC (toN 4) (tgsC (toN 3) (tgsC (toN 5) tgs0)))) (e := dspT (argsC (ixV (gS 1) (argsC (gS 4) args0)) (argsC (ixV (gS 1) (argsC (gS 3) args0)) (argsC (gS 5) args0)))) (s := ⟨[some (webD false m ts), some d, none, none, none, none], μ⟩) (s' := ⟨[some (webD false m ts), some d, none, none, none, none], μ⟩) (ds := ts.map tieD)
    (fun d => match d with | .tup [.int x, .int y, .int z] => tieD (at1 o x, at1 o y, z) | _ => .none) (by
      generalize ts.map tieD = UD at l1 sh1 ⊢
      simp [webS_share, l1, sh1]) (by rw [List.length_map]; omega) rfl (by
    intro d' hd
    obtain ⟨⟨x, y, z⟩, hu, rfl⟩ := List.mem_map.mp hd
    obtain ⟨q0, q1, q2, _⟩ := w.T.ok _ hu
    have a1 := idx_ok (ho x q0 (by simp only at q1 q2; omega))
    have a2 := idx_ok (ho y (by simp only at q0 q1; omega) q2)
    refine ⟨_, ⟨[some (webD false m ts), some d, none, some (.int y), some (.int x), some (.int z)], μ⟩, rfl, ?_, rfl⟩
    generalize o.map D.int = od at *
    simp [ixV_ap, hs, hv, a1, a2, tieD])
  have hmm2 : (ts.map tieD).map (fun d => match d with | .tup [.int x, .int y, .int z] => tieD (at1 o x, at1 o y, z) | _ => .none) = (renT ts o).map tieD := by
    unfold renT
    rw [List.map_map, List.map_map]; rfl
  rw [hmm2] at e2
  have hw := web_of_made (m := m) (fw_lst (μ := μ) (o := false) (ts := renT ts o) (by unfold renT; rw [List.length_map]; omega))
  have sh2 := shares_ties (renT ts o)
  generalize made (renT ts o) = MD at hw ⊢
  generalize (renT ts o).map tieD = VD at e2 hw sh2
  simp [F_renamed_by, m_renamed_by, webS_share, ↓e2, k1, sh2, hw]
theorem lren_ok {μ : Cells} {m : Int} {ts : List Tie} {o : List Int} (w : Web m ts) (ho : ∀ v, 0 ≤ v → v < m → v ∈ o) :
    F__law_renamed [webD false m ts, rowF o] μ = some (.ok (webD true m (made (renT ts o))), μ) := by
  have hl := w.len
  have so := shares_ints o
  have hi : itS (ixM (gP 0) (kst (.int 2))) ⟨[some (webD false m ts), some (rowF o), none, none, none], μ⟩ = some (.ok (.fix (ts.map tieD)), ⟨[some (webD false m ts), some (rowF o), none, none, none], μ⟩) := by
    have h2 : webD false m ts = .tup [.str "web", .int m, .lst false (ts.map tieD)] := rfl
    have hfr := frees_ties ts
    have hsh := shares_ties ts
    rw [h2]
    generalize ts.map tieD = U at *
    simp [hfr, hsh]
  have e2 := comp_map (own := [2, 3, 4]) (f := toT 3 (tgsC (toN 3) (tgsC (toN 2) (tgsC (toN 4) tgs0)))) (e := dspT (argsC (ixL (gS 1) (argsC (gS 3) args0)) (argsC (ixL (gS 1) (argsC (gS 2) args0)) (argsC (gS 4) args0))))
    (fun d => match d with | .tup [.int x, .int y, .int z] => tieD (at1 o x, at1 o y, z) | _ => .none) hi (by rw [List.length_map]; omega) rfl (by
    intro d' hd
    obtain ⟨⟨x, y, z⟩, hu, rfl⟩ := List.mem_map.mp hd
    obtain ⟨q0, q1, q2, _⟩ := w.T.ok _ hu
    have a1 := idx_ok (ho x q0 (by simp only at q1 q2; omega))
    have a2 := idx_ok (ho y (by simp only at q0 q1; omega) q2)
    refine ⟨_, ⟨[some (webD false m ts), some (rowF o), some (.int y), some (.int x), some (.int z)], μ⟩, rfl, ?_, rfl⟩
    unfold rowF
    generalize o.map D.int = od at *
    simp [ixL_ap, so, a1, a2, tieD])
  have hmm2 : (ts.map tieD).map (fun d => match d with | .tup [.int x, .int y, .int z] => tieD (at1 o x, at1 o y, z) | _ => .none) = (renT ts o).map tieD := by
    unfold renT
    rw [List.map_map, List.map_map]; rfl
  rw [hmm2] at e2
  have hw := law_made_made (m := m) (fw_lst (μ := μ) (o := true) (ts := renT ts o) (by unfold renT; rw [List.length_map]; omega))
  have i1 : ixM (gP 0) (kst (.int 1)) ⟨[some (webD false m ts), some (rowF o), none, none, none], μ⟩ = some (.ok (.val (.int m)), ⟨[some (webD false m ts), some (rowF o), none, none, none], μ⟩) := rfl
  generalize made (renT ts o) = MD at hw ⊢
  generalize (renT ts o).map tieD = VD at e2 hw
  have sv : D.shares VD = VD ∨ True := .inr trivial
  generalize rowF o = ro at *
  generalize webD false m ts = W at *
  simp [F__law_renamed, m__law_renamed, ↓i1, ↓e2, hw]
/-- an order drawn -/
theorem lord_ok {n k : Nat} {μ : Cells} {m : Int} (g : Gen n k μ) (m1 : 1 ≤ m) (m7 : m ≤ 7) (hn : n < 800000000) :
    ∃ (o : List Int) (μ' : Cells), F__law_order [.cell k, .int m] μ = some (.ok (.lst true (o.map .int)), μ') ∧ o.Perm (ups m) ∧ Gen (n + 1000) k μ' := by
  have hl : ((ups m).length : Int) = m := ups_len (by omega)
  obtain ⟨j, s0, s', ⟨ls, fs, μ1, rfl, h1, h2, h3, h4⟩, hc, hw⟩ := whl_run (c := tst (binI neE (gP 2) (dspL args0))) (b := drp (mtM appO 3 (argsC (mtM popAtO 2 (argsC (DL.call F__law_random (argsC (gS 0) (argsC (cliI lenD (argsC (gP 2) args0)) args0))) args0)) args0)))
    (fun j s => ∃ (ls fs : List Int) (μ1 : Cells), s = ⟨[some (.cell k), some (.int m), some (.lst true (ls.map .int)), some (.lst true (fs.map .int))], μ1⟩ ∧ ls.length = j ∧ (fs ++ ls).Perm (ups m) ∧ j ≤ 7 ∧ Gen (n + 100 * (7 - j)) k μ1)
    (n := fuel) (m := (ups m).length) (s := ⟨[some (.cell k), some (.int m), some (.lst true ((ups m).map .int)), some (.lst true [])], μ⟩) (by unfold fuel; omega) ⟨ups m, [], μ, rfl, rfl, by simp, by omega, g.mono (by omega)⟩ (by
      rintro j s ⟨ls, fs, μ1, rfl, h1, h2, h3, h4⟩
      have hne := neE_nil true true (ls.map D.int)
      refine ⟨!(ls.map D.int).isEmpty, ⟨[some (.cell k), some (.int m), some (.lst true (ls.map .int)), some (.lst true (fs.map .int))], μ1⟩, by
        have hf := frees_ints ls
        generalize ls.map D.int = L at *
        simp [hne], ?_⟩
      match ls, h1 with
      | [], _ => exact .inl rfl
      | a :: l, h1 =>
        right
        refine ⟨rfl, ?_⟩
        have hb : 1 ≤ (((a :: l).map D.int).length : Int) := by rw [List.length_map]; simp; omega
        obtain ⟨r, μ2, e, r0, r1, g2, _, _⟩ := rnd_gen h4 (b := (((a :: l).map D.int).length : Int)) hb (by rw [List.length_map, h1]; omega) (by omega)
        have hr : r.toNat < (a :: l).length := by rw [List.length_map] at r1; omega
        have hlen := h2.length_eq
        rw [List.length_append] at hlen
        have hs : fs.length < 16777216 := by omega
        have he : ((a :: l).map D.int).eraseIdx r.toNat = ((a :: l).eraseIdx r.toNat).map D.int := map_erase _ _ _
        have hbb : -(9223372036854775808 : Int) ≤ r ∧ r < 9223372036854775808 := by rw [List.length_map, h1] at r1; omega
        have hx := ixN_of r0 (by rw [List.length_map] at r1 ⊢; exact r1 : r < (((a :: l).map D.int).length : Nat))
        have hg : ((a :: l).map D.int)[r.toNat]? = some (.int (a :: l)[r.toNat]) := by rw [List.getElem?_map, List.getElem?_eq_getElem hr]; rfl
        have hf := frees_ints (a :: l)
        have hap : fs.map D.int ++ [.int (a :: l)[r.toNat]] = (fs ++ [(a :: l)[r.toNat]]).map .int := by simp
        refine ⟨⟨[some (.cell k), some (.int m), some (.lst true (((a :: l).eraseIdx r.toNat).map .int)), some (.lst true ((fs ++ [(a :: l)[r.toNat]]).map .int))], μ2⟩, l.length, .inl ?_, by simp at h1; omega, (a :: l).eraseIdx r.toNat, fs ++ [(a :: l)[r.toNat]], μ2, rfl, by rw [List.length_eraseIdx_of_lt hr]; simp, ?_, by simp at h1; omega, g2.mono (by simp at h1; omega)⟩
        · rw [← he, ← hap]
          generalize (a :: l)[r.toNat] = z at *
          have hfl : (fs.map D.int).length < 16777216 := by rw [List.length_map]; exact hs
          generalize fs.map D.int = FS at *
          generalize (a :: l).map D.int = LS at *
          simp [mtM, e, popAtO, hbb, hx, hg, appO, hfl]
        · rw [List.append_assoc]
          exact (List.Perm.append_left fs (erase_perm hr)).trans h2)
  have hz : ls = [] := by
    have hne := neE_nil true true (ls.map D.int)
    have : tst (binI neE (gP 2) (dspL args0)) ⟨[some (.cell k), some (.int m), some (.lst true (ls.map .int)), some (.lst true (fs.map .int))], μ1⟩ = some (.ok (!(ls.map D.int).isEmpty), ⟨[some (.cell k), some (.int m), some (.lst true (ls.map .int)), some (.lst true (fs.map .int))], μ1⟩) := by
      generalize ls.map D.int = L at *
      simp [hne]
    rw [this] at hc
    cases ls with
    | nil => rfl
    | cons a l => simp at hc
  subst hz
  refine ⟨fs, μ1, ?_, by simpa using h2, h4.mono (by omega)⟩
  have hs' : s' = ⟨[some (.cell k), some (.int m), some (.lst true []), some (.lst true (fs.map .int))], μ1⟩ := by
    have hne := neE_nil true true []
    have : tst (binI neE (gP 2) (dspL args0)) ⟨[some (.cell k), some (.int m), some (.lst true []), some (.lst true (fs.map .int))], μ1⟩ = some (.ok false, ⟨[some (.cell k), some (.int m), some (.lst true []), some (.lst true (fs.map .int))], μ1⟩) := by simp [hne]
    have h5 := hc
    simp only [List.map_nil] at h5
    rw [this] at h5
    cases h5; rfl
  subst hs'
  have hlr : lr1 (gP 1) ⟨[some (.cell k), some (.int m), none, none], μ⟩ = some (.ok (.val (.lst true ((ups m).map .int))), ⟨[some (.cell k), some (.int m), none, none], μ⟩) := by
    have := lr1_run (ρ := [some (.cell k), some (.int m), none, none]) (μ := μ) (i := 1) (m := m) rfl ⟨by omega, by omega⟩
    rw [rng_ups] at this
    exact this
  generalize (ups m).map D.int = U at *
  generalize fs.map D.int = FS at *
  simp [F__law_order, m__law_order, ↓hlr, hw]
theorem nrm_nrm (t : Tie) : nrm (nrm t) = nrm t := by
  obtain ⟨a, b, c⟩ := t
  unfold nrm
  simp only
  by_cases h : b < a
  · rw [if_pos h, if_neg (by omega : ¬ b > a), if_neg (by omega), if_pos (by omega)]
  · by_cases h2 : b > a
    · rw [if_neg h, if_pos h2, if_neg h, if_pos h2]
    · obtain rfl : a = b := by omega
      simp
theorem made_nrm (ts : List Tie) : made (ts.map nrm) = made ts := by
  unfold made
  rw [List.map_map]
  congr 2
  exact List.map_congr_left fun t _ => nrm_nrm t
theorem nrm_pair (t : Tie) (h : t.1 ≠ t.2.1) : ((nrm t).1 < (nrm t).2.1) ∧ (nrm t).2.2 = t.2.2 ∧ (((nrm t).1 = t.1 ∧ (nrm t).2.1 = t.2.1) ∨ ((nrm t).1 = t.2.1 ∧ (nrm t).2.1 = t.1)) := by
  obtain ⟨a, b, c⟩ := t
  simp only at h
  unfold nrm
  simp only
  by_cases h1 : b < a
  · rw [if_pos h1, if_neg (by omega)]
    exact ⟨h1, by trivial, .inr ⟨by trivial, by trivial⟩⟩
  · rw [if_neg h1, if_pos (by omega)]
    exact ⟨by omega, by trivial, .inl ⟨by trivial, by trivial⟩⟩
structure Ord (m : Int) (o : List Int) : Prop where
  nd : o.Nodup
  lo : ∀ x ∈ o, 0 ≤ x ∧ x < m
  hi : ∀ v, 0 ≤ v → v < m → v ∈ o
  ln : (o.length : Int) = m
theorem ups_nd (m : Int) : (ups m).Nodup := by
  unfold ups List.Nodup
  rw [List.pairwise_map]
  exact List.nodup_range.imp fun h e => h (by omega)
theorem ups_le (m : Int) : (ups m).Pairwise (· ≤ ·) := by
  unfold ups
  rw [List.pairwise_map]
  exact List.pairwise_lt_range.imp fun h => by omega
theorem ord_perm {m : Int} {o : List Int} (h : 0 ≤ m) (p : o.Perm (ups m)) : Ord m o :=
  ⟨p.nodup_iff.mpr (ups_nd m), fun _ hx => ups_mem.mp (p.mem_iff.mp hx), fun _ h0 h1 => p.mem_iff.mpr (ups_mem.mpr ⟨h0, h1⟩), by rw [p.length_eq]; exact ups_len h⟩
theorem at1_at {m : Int} {o : List Int} (h : Ord m o) {v : Int} (v0 : 0 ≤ v) (v1 : v < m) : ∃ i : Nat, at1 o v = (i : Int) ∧ o[i]? = some v ∧ (i : Int) < m := by
  have hl : o.findIdx (· == v) < o.length := List.findIdx_lt_length_of_exists ⟨v, h.hi v v0 v1, by simp⟩
  refine ⟨o.findIdx (· == v), rfl, ?_, by have := h.ln; omega⟩
  rw [List.getElem?_eq_getElem hl]
  have : (o[o.findIdx (· == v)] == v) = true := List.findIdx_getElem (w := hl)
  simpa using this
theorem at1_inj {m : Int} {o : List Int} (h : Ord m o) {v w : Int} (v0 : 0 ≤ v) (v1 : v < m) (w0 : 0 ≤ w) (w1 : w < m) (e : at1 o v = at1 o w) : v = w := by
  obtain ⟨i, hi, gi, _⟩ := at1_at h v0 v1
  obtain ⟨j, hj, gj, _⟩ := at1_at h w0 w1
  have : i = j := by omega
  subst this
  rw [gi] at gj; exact Option.some.inj gj
theorem at1_back {m : Int} {o : List Int} (h : Ord m o) {i : Nat} {v : Int} (hv : o[i]? = some v) : at1 o v = (i : Int) := by
  have hm := h.lo v (List.mem_of_getElem? hv)
  obtain ⟨j, hj, gj, _⟩ := at1_at h hm.1 hm.2
  obtain ⟨li, e1⟩ := List.getElem?_eq_some_iff.mp hv
  obtain ⟨lj, e2⟩ := List.getElem?_eq_some_iff.mp gj
  have nd := List.pairwise_iff_getElem.mp h.nd
  rcases Nat.lt_trichotomy i j with c | c | c
  · exact (nd i j li lj c (by rw [e1, e2])).elim
  · omega
  · exact (nd j i lj li c (by rw [e1, e2])).elim
def renN (ts : List Tie) (o : List Int) : List Tie := (renT ts o).map nrm
theorem ren_ties {m : Int} {ts : List Tie} {o : List Int} (w : Web m ts) (h : Ord m o) : Ties m (renN ts o) := by
  have key : ∀ u ∈ ts, ∃ x y, at1 o u.1 = x ∧ at1 o u.2.1 = y ∧ 0 ≤ x ∧ x < m ∧ 0 ≤ y ∧ y < m ∧ x ≠ y := fun u hu => by
    have ok := w.T.ok u hu
    obtain ⟨i, hi, _, li⟩ := at1_at h ok.1 (by omega : u.1 < m)
    obtain ⟨j, hj, _, lj⟩ := at1_at h (by omega : 0 ≤ u.2.1) ok.2.2.1
    refine ⟨_, _, rfl, rfl, by omega, by omega, by omega, by omega, fun e => ?_⟩
    have := at1_inj h ok.1 (by omega) (by omega) ok.2.2.1 e
    omega
  have hr : renN ts o = ts.map fun u => nrm (at1 o u.1, at1 o u.2.1, u.2.2) := by unfold renN renT; rw [List.map_map]; rfl
  rw [hr]
  refine ⟨fun x hx => ?_, ?_, fun S s0 hS => ?_⟩
  · obtain ⟨u, hu, rfl⟩ := List.mem_map.mp hx
    have ok := w.T.ok u hu
    obtain ⟨x, y, ex, ey, k⟩ := key u hu
    obtain ⟨p1, p2, p3⟩ := nrm_pair (at1 o u.1, at1 o u.2.1, u.2.2) (by simp only; omega)
    simp only at p2 p3
    rcases p3 with p3 | p3 <;> (rw [p2]; omega)
  · rw [List.map_map]
    have nd := w.T.nd
    unfold List.Nodup at nd ⊢
    rw [List.pairwise_map] at nd ⊢
    refine nd.imp_of_mem fun {a b} ha hb hab e => hab ?_
    have e1 := congrArg Prod.fst e
    have e2 := congrArg Prod.snd e
    simp only [Function.comp_apply] at e1 e2
    have oa := w.T.ok a ha
    have ob := w.T.ok b hb
    obtain ⟨xa, ya, exa, eya, ka⟩ := key a ha
    obtain ⟨xb, yb, exb, eyb, kb⟩ := key b hb
    obtain ⟨_, _, pa⟩ := nrm_pair (at1 o a.1, at1 o a.2.1, a.2.2) (by simp only; omega)
    obtain ⟨_, _, pb⟩ := nrm_pair (at1 o b.1, at1 o b.2.1, b.2.2) (by simp only; omega)
    simp only at pa pb
    have r : (at1 o a.1 = at1 o b.1 ∧ at1 o a.2.1 = at1 o b.2.1) ∨ (at1 o a.1 = at1 o b.2.1 ∧ at1 o a.2.1 = at1 o b.1) := by
      rcases pa with pa | pa <;> rcases pb with pb | pb <;> omega
    rcases r with ⟨r1, r2⟩ | ⟨r1, r2⟩
    · rw [at1_inj h oa.1 (by omega) ob.1 (by omega) r1, at1_inj h (by omega) oa.2.2.1 (by omega) ob.2.2.1 r2]
    · have := at1_inj h oa.1 (by omega) (by omega) ob.2.2.1 r1
      have := at1_inj h (by omega) oa.2.2.1 ob.1 (by omega) r2
      omega
  · have hS2 : ∀ u ∈ ts, (S (at1 o u.1) ↔ S (at1 o u.2.1)) := fun u hu => by
      have := hS _ (List.mem_map.mpr ⟨u, hu, rfl⟩)
      obtain ⟨x, y, ex, ey, k⟩ := key u hu
      obtain ⟨_, _, pa⟩ := nrm_pair (at1 o u.1, at1 o u.2.1, u.2.2) (by simp only; omega)
      simp only at pa
      rcases pa with ⟨p1, p2⟩ | ⟨p1, p2⟩
      · rw [p1, p2] at this; exact this
      · rw [p1, p2] at this; exact this.symm
    have ln := h.ln
    have get : ∀ i : Nat, (i : Int) < m → ∃ v, o[i]? = some v ∧ 0 ≤ v ∧ v < m ∧ at1 o v = (i : Int) := fun i hi => by
      have hl : i < o.length := by omega
      have e := List.getElem?_eq_getElem hl
      exact ⟨_, e, (h.lo _ (List.mem_of_getElem? e)).1, (h.lo _ (List.mem_of_getElem? e)).2, at1_back h e⟩
    have m1 := w.m1
    obtain ⟨v0, _, v0a, v0b, e0⟩ := get 0 (by omega)
    have sv : S (at1 o v0) := by rw [e0]; exact s0
    have all : ∀ p, 0 ≤ p → p < m → S (at1 o p) := by
      by_cases c : S (at1 o 0)
      · exact w.T.jn (fun p => S (at1 o p)) c hS2
      · exact (w.T.jn (fun p => ¬ S (at1 o p)) c (fun u hu' => not_congr (hS2 u hu')) v0 v0a v0b sv).elim
    intro i i0 i1
    obtain ⟨v, _, va, vb, ev⟩ := get i.toNat (by omega)
    have hv := all v va vb
    rw [ev, Int.toNat_of_nonneg i0] at hv
    exact hv
theorem ren_web {m : Int} {ts : List Tie} {o : List Int} (w : Web m ts) (h : Ord m o) : Web m (made (renT ts o)) := by
  have T := ren_ties w h
  rw [← made_nrm (renT ts o)]
  exact (made_web T w.m1 w.m2 (by unfold renN renT at *; rw [List.length_map, List.length_map]; exact w.len)).1
theorem wh_ints (l : List Int) : (l.map D.int).all wh = true := by
  rw [List.all_eq_true]; intro d hd; obtain ⟨z, _, rfl⟩ := List.mem_map.mp hd; rfl
theorem item_i (z : Int) : (∀ c, D.int z ≠ .cell c) ∧ (D.int z).free = true ∧ (D.int z).tyn.isSome = true := ⟨fun _ h => (by cases h), rfl, rfl⟩
theorem iso_all {m : Int} {xs : List D} {μ : Cells} (hi : ∀ d ∈ xs, (∀ c, d ≠ .cell c) ∧ d.free = true ∧ d.tyn.isSome = true) (hl : xs.length ≤ 1000) :
    cliI allD (argsC (comp [2] (itS (gS 1)) (toN 2) tst1 (DL.call F_is_whole (argsC (gS 2) args0))) args0) ⟨[some (.int m), some (.lst false xs), none], μ⟩ = some (.ok (.val (.bool (xs.all wh))), ⟨[some (.int m), some (.lst false xs), none], μ⟩) := by
  have hfr : D.frees xs = true := (D.frees_iff _).mpr fun d hd => (hi d hd).2.1
  have hs : D.shares xs = xs := D.shares_of_frees _ hfr
  exact all_map (own := [2]) (f := toN 2) (e := DL.call F_is_whole (argsC (gS 2) args0)) (src := itS (gS 1)) (ds := xs) wh (by simp [hs]) (by omega) rfl (by
    intro d hd
    obtain ⟨h1, h2, h3⟩ := hi d hd
    have h4 := shr_free h2
    have h5 := whole_wh h1 μ h3
    exact ⟨_, ⟨[some (.int m), some (.lst false xs), some d], μ⟩, rfl, by simp [h4, h5], by simp [wipeE]⟩)
theorem iso_no {m : Int} {xs : List D} {μ : Cells} (hi : ∀ d ∈ xs, (∀ c, d ≠ .cell c) ∧ d.free = true ∧ d.tyn.isSome = true) (hl : xs.length ≤ 1000) (hw : xs.all wh = false) : F_is_order_by [.int m, .lst false xs] μ = some (.ok (.bool false), μ) := by
  have e := iso_all (m := m) (μ := μ) hi hl
  rw [hw] at e
  simp [F_is_order_by, m_is_order_by, ↓e]
theorem iso_c {m : Int} {v : D} {μ : Cells} (h : v = .none ∨ (∃ xs, v = .tup xs) ∨ v = .dic [] []) : F_is_order_by [.int m, v] μ = some (.ok (.bool false), μ) := by
  rcases h with rfl | ⟨xs, rfl⟩ | rfl <;> simp [F_is_order_by, m_is_order_by]
theorem iso_ints {m : Int} {l : List Int} {μ : Cells} (hm : 0 ≤ m ∧ m ≤ 7) (hl : l.length ≤ 1000) : F_is_order_by [.int m, rowF l] μ = some (.ok (.bool (decide (sortI l = ups m))), μ) := by
  have e := iso_all (m := m) (μ := μ) (xs := l.map .int) (fun d hd => by obtain ⟨z, _, rfl⟩ := List.mem_map.mp hd; exact item_i z) (by rw [List.length_map]; exact hl)
  rw [wh_ints] at e
  have hs := sort_ints false l
  have hf := frees_ints l
  have hsh := shares_ints l
  have hlr : lr1 (gP 0) ⟨[some (.int m), some (.lst false (l.map .int)), none], μ⟩ = some (.ok (.val (.lst true ((ups m).map .int))), ⟨[some (.int m), some (.lst false (l.map .int)), none], μ⟩) := by
    have := lr1_run (ρ := [some (.int m), some (.lst false (l.map .int)), none]) (μ := μ) (i := 0) (m := m) rfl ⟨by omega, by omega⟩
    rw [rng_ups] at this
    exact this
  have hq := eq_ints true true (sortI l) (ups m)
  unfold rowF
  generalize hL : l.map D.int = L at *
  generalize (ups m).map D.int = U at *
  generalize (sortI l).map D.int = SL at *
  simp [F_is_order_by, m_is_order_by, ↓e, hf, hsh, hs, ↓hlr, hq]
theorem iso_yes {m : Int} {o : List Int} {μ : Cells} (hm : 0 ≤ m ∧ m ≤ 7) (p : o.Perm (ups m)) : F_is_order_by [.int m, rowF o] μ = some (.ok (.bool true), μ) := by
  have h := iso_ints (μ := μ) (l := o) hm (by have := p.length_eq; have := ups_len hm.1; omega)
  rw [← sortI_of p.symm (ups_le m)] at h
  simpa using h
theorem sort_mem {l k : List Int} (h : sortI l = k) : ∀ x, x ∈ l ↔ x ∈ k := fun x => by
  rw [← h]; unfold sortI; exact (List.mergeSort_perm l _).mem_iff.symm
theorem sort_len {l k : List Int} (h : sortI l = k) : l.length = k.length := by
  rw [← h]; unfold sortI; rw [List.length_mergeSort]
theorem iso_nol {m : Int} {l : List Int} {μ : Cells} (hm : 0 ≤ m ∧ m ≤ 7) (hl : l.length ≤ 1000) (h : (l.length : Int) ≠ m ∨ ∃ x ∈ l, ¬ (0 ≤ x ∧ x < m)) : F_is_order_by [.int m, rowF l] μ = some (.ok (.bool false), μ) := by
  rw [iso_ints hm hl]
  have : ¬ sortI l = ups m := fun e => by
    rcases h with h | ⟨x, hx, h⟩
    · have := sort_len e; have := ups_len hm.1; omega
    · exact h (ups_mem.mp ((sort_mem e x).mp hx))
  rw [decide_eq_false this]
theorem ordL_ord {m : Int} (h1 : 1 ≤ m) (h2 : m ≤ 5) {r : List Int} (hr : r ∈ ordL m m.toNat) : Ord m r := by
  obtain ⟨a, b, c⟩ := ordL_ok hr
  have hh : ∀ r ∈ ordL m m.toNat, ∀ v ∈ ups m, v ∈ r := by
    clear hr a b c
    rcases case15 h1 h2 with rfl | rfl | rfl | rfl | rfl <;> decide +kernel
  exact ⟨b, c, fun v v0 v1 => hh r hr v (ups_mem.mpr ⟨v0, v1⟩), by omega⟩
theorem rweb_ok {m : Int} {ts : List Tie} {o : List Int} {μ : Cells} (w : Web m ts) (p : o.Perm (ups m)) : F_renamed_web [webD false m ts, rowF o] μ = some (.ok (webD true m (made (renT ts o))), μ) := by
  have m1 := w.m1
  have m2 := w.m2
  have h1 := check_web_ok (μ := μ) w
  have h2 := many_ok (μ := μ) (m := m) (ts := ts)
  have h3 := iso_yes (μ := μ) (m := m) ⟨by omega, m2⟩ p
  have hs : (rowF o).share = rowF o := by show D.lst false (D.shares (o.map .int)) = _; rw [shares_ints]; rfl
  have h4 := ren_comp (μ := μ) (d := rowF o) w (ord_perm (by omega) p).hi hs rfl
  have sw := webS_share false m ts
  generalize webD true m (made (renT ts o)) = DW at *
  generalize webD false m ts = W at *
  generalize rowF o = RO at *
  simp [F_renamed_web, m_renamed_web, sw, hs, h1, h2, h3, h4]
theorem rweb_w {v b : D} {μ : Cells} (hf : v.free = true) (j : Jud v false) : F_renamed_web [v, b] μ = some (.err "InvalidWeb" v, μ) := by
  have h := bad_check hf j μ
  have hs := shr_free hf
  exact runB_err ⟨[some v, some b], μ⟩ (sq_err (by simp [hs, h]))
theorem rweb_l {m : Int} {ts : List Tie} {v : D} {μ : Cells} (w : Web m ts) (hf : v.free = true) (ho : F_is_order_by [.int m, v] μ = some (.ok (.bool false), μ)) : F_renamed_web [webD false m ts, v] μ = some (.err "InvalidList" v, μ) := by
  have hs := shr_free hf
  have h1 := check_web_ok (μ := μ) w
  have k1 := many_ok (μ := μ) (m := m) (ts := ts)
  have hw := webS_share false m ts
  generalize webD false m ts = W at *
  refine runB_err ⟨[some W, some v], μ⟩ ?_
  refine (sq_run (s1 := ⟨[some W, some v], μ⟩) (by simp [hw, h1])).trans ?_
  exact sq_err (by simp [hs, hw, k1, ho, rse])
theorem ints_thaw7 : ∀ (l : List Int) (n : Nat), D.thaws (l.map .int) n = (l.map .int, [])
  | [], _ => rfl
  | z :: l, n => by
    have := ints_thaw7 l n
    simp only [List.map_cons, D.thaws, D.thaw, List.length_nil, Nat.add_zero, this, List.append_nil]
def rcells : Nat → List (List Int) → List D
  | _, [] => []
  | n, _ :: R => .cell n :: rcells (n + 1) R
theorem rcells_at : ∀ {R : List (List Int)} {n i : Nat} {r : List Int}, R[i]? = some r → (rcells n R)[i]? = some (.cell (n + i))
  | [], _, _, _, h => by simp at h
  | _ :: R, n, 0, _, _ => rfl
  | _ :: R, n, i + 1, r, h => by
    rw [List.getElem?_cons_succ] at h
    have := rcells_at (n := n + 1) h
    simp only [rcells, List.getElem?_cons_succ, this]
    rw [Nat.add_assoc, Nat.add_comm 1 i]
theorem rcells_len : ∀ (R : List (List Int)) (n : Nat), (rcells n R).length = R.length
  | [], _ => rfl
  | _ :: R, n => by simp [rcells, rcells_len R (n + 1)]
theorem rows_thaw : ∀ (R : List (List Int)) (n : Nat), D.thaws (R.map rowT) n = (rcells n R, R.map fun r => r.map .int)
  | [], _ => rfl
  | r :: R, n => by
    have h1 := ints_thaw7 r n
    have h2 := rows_thaw R (n + 1)
    have h3 : (rowT r).thaw n = (.cell n, [r.map .int]) := by
      unfold rowT
      generalize r.map D.int = rd at *
      simp only [D.thaw, h1, List.length_nil, Nat.add_zero, List.nil_append]
    generalize hd : rowT r = d at *
    generalize hds : R.map rowT = ds at *
    simp only [List.map_cons, D.thaws, hd, hds, h3, List.length_singleton, h2, rcells, List.singleton_append]
def rnB : M Fl := (ifS (tst (binI eqE (ixM (DL.call F_renamed_by (argsC (gS 0) (argsC (gS 2) args0))) (kst (.int 2))) (DL.call F_ties_in (argsC (gS 1) args0)))) (rtn (gM 2)) skp)
theorem rnB_ok {a b : Int} {ts us : List Tie} {o : List Int} {c : Nat} {μ : Cells} (w : Web a ts) (ho : ∀ v, 0 ≤ v → v < a → v ∈ o) (hc : μ[c]? = some (o.map .int)) :
    rnB ⟨[some (webD false a ts), some (webD false b us), some (.cell c)], μ⟩ = if made (renT ts o) = us then some (.ok (.rt (.cell c)), ⟨[some (webD false a ts), some (webD false b us), none], μ⟩) else some (.ok .nx, ⟨[some (webD false a ts), some (webD false b us), some (.cell c)], μ⟩) := by
  have h4 := ren_comp (μ := μ) (d := .cell c) w ho rfl hc
  have s1 := webS_share false a ts
  have s2 := webS_share false b us
  have t1 := ties_in_ok (μ := μ) (m := b) (ts := us)
  generalize hP : made (renT ts o) = P at *
  have e2 : webD true a P = .tup [.str "web", .int a, .lst true (P.map tieD)] := rfl
  rw [e2] at h4
  have hq := fun o o' => eq_ties o o' P us
  have hf1 := frees_ties P
  have hf2 := frees_ties us
  have hs1 := shares_ties P
  have hs2 := shares_ties us
  generalize webD false a ts = W at *
  generalize webD false b us = V at *
  generalize P.map tieD = PD at *
  generalize us.map tieD = UD at *
  by_cases c : P = us
  · rw [if_pos c]
    simp [rnB, s1, s2, h4, t1, hf1, hf2, hs1, hs2, hq, c]
  · rw [if_neg c]
    simp [rnB, s1, s2, h4, t1, hf1, hf2, hs1, hs2, hq, c]
def rnP (ts us : List Tie) (o : List Int) : Bool := decide (made (renT ts o) = us)
theorem rn_loop {a b : Int} {ts us : List Tie} {μ : Cells} {c0 kl : Nat} {it : Cells → Nat → Option D} {R : List (List Int)} (w : Web a ts) (hR : ∀ r ∈ R, ∀ v, 0 ≤ v → v < a → v ∈ r)
    (hit : ∀ i r, R[i]? = some r → it μ i = some (.cell (c0 + i))) (hend : it μ R.length = none) (hc : ∀ i r, R[i]? = some r → μ[c0 + i]? = some (r.map .int)) :
    ∀ (L pre : List (List Int)), R = pre ++ L → ∀ (n : Nat), L.length < n → ∀ o2, ∃ fl ρ', forD (toN 2) rnB it n pre.length ⟨[some (webD false a ts), some (webD false b us), o2], μ⟩ = some (.ok fl, ⟨ρ', μ⟩) ∧
      (L.find? (rnP ts us) = none → fl = .nx ∧ ∃ x, ρ' = [some (webD false a ts), some (webD false b us), x]) ∧ (∀ o, L.find? (rnP ts us) = some o → ∃ c, fl = .rt (.cell c) ∧ c0 ≤ c ∧ μ[c]? = some (o.map .int))
  | [], pre, hp, 0, hn, _ => by simp at hn
  | [], pre, hp, n + 1, hn, o2 => by
    rw [List.append_nil] at hp; subst hp
    refine ⟨.nx, _, by unfold forD; rw [hend], fun _ => ⟨rfl, _, rfl⟩, fun o h => by simp at h⟩
  | r :: L, pre, hp, 0, hn, _ => by simp at hn
  | r :: L, pre, hp, n + 1, hn, o2 => by
    have hg : R[pre.length]? = some r := by rw [hp]; simp
    have h1 := hit _ _ hg
    have h2 := hc _ _ hg
    have hb := rnB_ok (b := b) (us := us) w (hR r (List.mem_of_getElem? hg)) h2
    have ht : toN 2 (.cell (c0 + pre.length)) (⟨[some (webD false a ts), some (webD false b us), o2], μ⟩ : Sg) = some ⟨[some (webD false a ts), some (webD false b us), some (.cell (c0 + pre.length))], μ⟩ := rfl
    by_cases c : made (renT ts r) = us
    · rw [if_pos c] at hb
      refine ⟨.rt (.cell (c0 + pre.length)), _, by unfold forD; rw [h1]; simp only [ht]; rw [hb], fun h => ?_, fun o h => ?_⟩
      · rw [List.find?_cons, show rnP ts us r = true from decide_eq_true c] at h; cases h
      · rw [List.find?_cons, show rnP ts us r = true from decide_eq_true c] at h; cases h
        exact ⟨_, rfl, by omega, h2⟩
    · rw [if_neg c] at hb
      obtain ⟨fl, ρ', e, q1, q2⟩ := rn_loop (b := b) (us := us) (kl := kl) w hR hit hend hc L (pre ++ [r]) (by rw [hp]; simp) n (by simp at hn; omega) (some (.cell (c0 + pre.length)))
      rw [List.length_append, List.length_singleton] at e
      have hf : rnP ts us r = false := decide_eq_false c
      refine ⟨fl, ρ', by unfold forD; rw [h1]; simp only [ht]; rw [hb]; exact e, fun h => q1 ?_, fun o h => q2 o ?_⟩
      · rw [List.find?_cons, hf] at h; exact h
      · rw [List.find?_cons, hf] at h; exact h
/-- what renaming answers -/
def renF (a b : Int) (ts us : List Tie) : Option (List Int) := if a = b then (ordL a a.toNat).find? (rnP ts us) else none
theorem ordL_len {m : Int} (h1 : 1 ≤ m) (h2 : m ≤ 5) : (ordL m m.toNat).length ≤ 120 := by
  rcases case15 h1 h2 with rfl | rfl | rfl | rfl | rfl <;> decide +kernel
theorem renaming_ok {a b : Int} {ts us : List Tie} {μ : Cells} (w : Web a ts) (a5 : a ≤ 5) (w2 : Web b us) :
    ∃ X r, F_renaming [webD false a ts, webD false b us] μ = some (.ok r, μ ++ X) ∧ (renF a b ts us = none → r = .none) ∧ ∀ o, renF a b ts us = some o → ∃ c, r = .cell c ∧ μ.length ≤ c ∧ (μ ++ X)[c]? = some (o.map .int) := by
  have a1 := w.m1
  have h1 := check_web_ok (μ := μ) w
  have h2 := check_web_ok (μ := μ) w2
  have k1 := many_ok (μ := μ) (m := a) (ts := ts)
  have k2 := many_ok (μ := μ) (m := b) (ts := us)
  have s1 := webS_share false a ts
  have s2 := webS_share false b us
  have b1 : drp (DL.call F_check_web (argsC (gS 0) args0)) ⟨[some (webD false a ts), some (webD false b us), none], μ⟩ = some (.ok .nx, ⟨[some (webD false a ts), some (webD false b us), none], μ⟩) := by
    generalize webD false a ts = W at *
    generalize webD false b us = V at *
    simp [s1, h1]
  have b2 : drp (DL.call F_check_web (argsC (gS 1) args0)) ⟨[some (webD false a ts), some (webD false b us), none], μ⟩ = some (.ok .nx, ⟨[some (webD false a ts), some (webD false b us), none], μ⟩) := by
    generalize webD false a ts = W at *
    generalize webD false b us = V at *
    simp [s2, h2]
  have hm : ∀ f : Unit, F_renaming = runB 3 m_renaming := fun _ => rfl
  rw [hm ()]
  by_cases c : a = b
  · subst c
    have b3 : ifS (tst (binI neE (DL.call F_many_in (argsC (gS 0) args0)) (DL.call F_many_in (argsC (gS 1) args0)))) (rtn (kst .none)) skp ⟨[some (webD false a ts), some (webD false a us), none], μ⟩ = some (.ok .nx, ⟨[some (webD false a ts), some (webD false a us), none], μ⟩) := by
      generalize webD false a ts = W at *
      generalize webD false a us = V at *
      simp [s1, s2, k1, k2]
    have ho := orders7 (μ := μ) a1 a5
    have hol := ordL_len a1 a5
    have hoo : ∀ r ∈ ordL a a.toNat, ∀ v, 0 ≤ v → v < a → v ∈ r := fun r hr => (ordL_ord a1 a5 hr).hi
    have hre : renF a a ts us = (ordL a a.toNat).find? (rnP ts us) := by unfold renF; rw [if_pos rfl]
    rw [hre]
    generalize ordL a a.toNat = R at *
    have hth := rows_thaw R μ.length
    have hthd : (D.lst true (R.map rowT)).thaw μ.length = (.cell (μ.length + R.length), (R.map fun r => r.map .int) ++ [rcells μ.length R]) := by
      generalize R.map rowT = RT at *
      simp only [D.thaw, hth, List.length_map]
    obtain ⟨X, hX⟩ : ∃ X, X = (R.map fun r => r.map D.int) ++ [rcells μ.length R] := ⟨_, rfl⟩
    rw [← hX] at hthd
    have g1 : (μ ++ X)[μ.length + R.length]? = some (rcells μ.length R) := by
      rw [hX, List.getElem?_append_right (by omega), Nat.add_sub_cancel_left, List.getElem?_append_right (by rw [List.length_map]; omega), List.length_map, Nat.sub_self]; rfl
    have g2 : ∀ i r, R[i]? = some r → (μ ++ X)[μ.length + i]? = some (r.map .int) := fun i r h => by
      have hi := (List.getElem?_eq_some_iff.mp h).1
      rw [hX, List.getElem?_append_right (by omega), Nat.add_sub_cancel_left, List.getElem?_append_left (by rw [List.length_map]; exact hi), List.getElem?_map, h]; rfl
    have b4 : itS (thawD (DL.call F_orders_of (argsC (DL.call F_many_in (argsC (gS 0) args0)) args0))) ⟨[some (webD false a ts), some (webD false a us), none], μ⟩ = some (.ok (.dyn (R.length + 1) fun ν i => (ν[μ.length + R.length]?).bind (·[i]?)), ⟨[some (webD false a ts), some (webD false a us), none], μ ++ X⟩) := by
      have hl := rcells_len R μ.length
      generalize rcells μ.length R = RC at *
      generalize R.map rowT = RT at *
      generalize webD false a ts = W at *
      generalize webD false a us = V at *
      simp [s1, k1, ho, thawD_ap, hthd, g1, hl]
    obtain ⟨fl, ρ', e, q1, q2⟩ := rn_loop (a := a) (b := a) (ts := ts) (us := us) (μ := μ ++ X) (c0 := μ.length) (kl := 0) (it := fun ν i => (ν[μ.length + R.length]?).bind (·[i]?)) (R := R) w hoo (fun i r h => by
      show ((μ ++ X)[μ.length + R.length]?).bind (·[i]?) = _
      rw [g1]; exact rcells_at h) (by
      show ((μ ++ X)[μ.length + R.length]?).bind (·[R.length]?) = _
      rw [g1]
      show (rcells μ.length R)[R.length]? = none
      exact List.getElem?_eq_none (by rw [rcells_len]; omega)) g2 R [] rfl (R.length + 1) (by omega) none
    have b5 := (forS_dyn (f := toN 2) (b := rnB) b4).trans e
    cases hfd : R.find? (rnP ts us) with
    | none =>
      obtain ⟨rfl, x, rfl⟩ := q1 hfd
      refine ⟨X, .none, ?_, fun _ => rfl, fun o h => by cases h⟩
      show runB 3 (sq (drp (DL.call F_check_web (argsC (gS 0) args0))) (sq (drp (DL.call F_check_web (argsC (gS 1) args0))) (sq (ifS (tst (binI neE (DL.call F_many_in (argsC (gS 0) args0)) (DL.call F_many_in (argsC (gS 1) args0)))) (rtn (kst .none)) skp) (sq (forS (itS (thawD (DL.call F_orders_of (argsC (DL.call F_many_in (argsC (gS 0) args0)) args0)))) (toN 2) rnB) (rtn (kst .none)))))) _ _ = _
      have st : startE 3 [webD false a ts, webD false a us] = [some (webD false a ts), some (webD false a us), none] := rfl
      rw [runB, st, sq_run b1, sq_run b2, sq_run b3, sq_run b5]
      rfl
    | some o =>
      obtain ⟨c, rfl, hc1, hc2⟩ := q2 o hfd
      refine ⟨X, .cell c, ?_, fun h => (by cases h), fun o' h => (by cases h; exact ⟨c, rfl, hc1, hc2⟩)⟩
      show runB 3 (sq (drp (DL.call F_check_web (argsC (gS 0) args0))) (sq (drp (DL.call F_check_web (argsC (gS 1) args0))) (sq (ifS (tst (binI neE (DL.call F_many_in (argsC (gS 0) args0)) (DL.call F_many_in (argsC (gS 1) args0)))) (rtn (kst .none)) skp) (sq (forS (itS (thawD (DL.call F_orders_of (argsC (DL.call F_many_in (argsC (gS 0) args0)) args0)))) (toN 2) rnB) (rtn (kst .none)))))) _ _ = _
      have st : startE 3 [webD false a ts, webD false a us] = [some (webD false a ts), some (webD false a us), none] := rfl
      have b6 : ∀ k : M Fl, sq (forS (itS (thawD (DL.call F_orders_of (argsC (DL.call F_many_in (argsC (gS 0) args0)) args0)))) (toN 2) rnB) k ⟨[some (webD false a ts), some (webD false a us), none], μ⟩ = some (.ok (.rt (.cell c)), ⟨ρ', μ ++ X⟩) := fun k => by rw [sq_ap, b5]
      rw [runB, st, sq_run b1, sq_run b2, sq_run b3, b6]
  · have hre : renF a b ts us = none := by unfold renF; rw [if_neg c]
    refine ⟨[], .none, ?_, fun _ => rfl, fun o h => by rw [hre] at h; cases h⟩
    have b3 : ifS (tst (binI neE (DL.call F_many_in (argsC (gS 0) args0)) (DL.call F_many_in (argsC (gS 1) args0)))) (rtn (kst .none)) skp ⟨[some (webD false a ts), some (webD false b us), none], μ⟩ = some (.ok (.rt .none), ⟨[some (webD false a ts), some (webD false b us), none], μ⟩) := by
      generalize webD false a ts = W at *
      generalize webD false b us = V at *
      simp [s1, s2, k1, k2, c]
    have st : startE 3 [webD false a ts, webD false b us] = [some (webD false a ts), some (webD false b us), none] := rfl
    show runB 3 (sq (drp (DL.call F_check_web (argsC (gS 0) args0))) (sq (drp (DL.call F_check_web (argsC (gS 1) args0))) (sq (ifS (tst (binI neE (DL.call F_many_in (argsC (gS 0) args0)) (DL.call F_many_in (argsC (gS 1) args0)))) (rtn (kst .none)) skp) (sq (forS (itS (thawD (DL.call F_orders_of (argsC (DL.call F_many_in (argsC (gS 0) args0)) args0)))) (toN 2) rnB) (rtn (kst .none)))))) _ _ = _
    rw [runB, st, sq_run b1, sq_run b2, sq_ap, b3, List.append_nil]
theorem rnm_w1 {v b : D} {μ : Cells} (hf : v.free = true) (j : Jud v false) : F_renaming [v, b] μ = some (.err "InvalidWeb" v, μ) := by
  have h := bad_check hf j μ
  have hs := shr_free hf
  exact runB_err ⟨[some v, some b, none], μ⟩ (sq_err (by simp [hs, h]))
theorem rnm_w2 {m : Int} {ts : List Tie} {v : D} {μ : Cells} (w : Web m ts) (hf : v.free = true) (j : Jud v false) : F_renaming [webD false m ts, v] μ = some (.err "InvalidWeb" v, μ) := by
  have h := bad_check hf j μ
  have hs := shr_free hf
  have h1 := check_web_ok (μ := μ) w
  have hw := webS_share false m ts
  generalize webD false m ts = W at *
  refine runB_err ⟨[some W, some v, none], μ⟩ ?_
  refine (sq_run (s1 := ⟨[some W, some v, none], μ⟩) (by simp [hw, h1])).trans ?_
  exact sq_err (by simp [hs, h])
def AskOk (μ : Cells) (d : D) : Prop := ∃ (i : Int) (as : List D) (due : List D) (x : Str), d = .tup [.int i, .tup as, .lst false due] ∧ D.frees as = true ∧ D.frees due = true ∧ F__law_caught [.int i, .tup as] μ = some (.ok (.str x), μ) ∧ reprD [.lst false due] = some (.str x)
/-- a thing that may be handed in -/
structure Arg (d : D) : Prop where
  fr : d.free = true
  tm : Tame 136000 6 d
theorem tame_dueL {bs : List Bool} {v : D} (t : Tame 136000 6 v) (h : bs.length ≤ 5) : Tame 900000 50 (.lst false (bs.map .bool ++ [v])) :=
  (Tame.lst (k := 136000) (j := 6) (fun d hd => by
    rcases List.mem_append.mp hd with hd | hd
    · obtain ⟨b, _, rfl⟩ := List.mem_map.mp hd
      exact (Tame.bool b).mono (by omega) (Nat.le_refl 6)
    · rw [List.mem_singleton] at hd; subst hd; exact t) 6 (by rw [List.length_append, List.length_map]; simp; omega)).mono (by omega) (by omega)
theorem tame_argsL {as : List D} (h : ∀ a ∈ as, Arg a) (hl : as.length ≤ 6) : Tame 900000 50 (.tup as) :=
  (Tame.tup (k := 136000) (j := 6) (fun d hd => (h d hd).tm) 6 hl).mono (by omega) (by omega)
theorem frees_args {as : List D} (h : ∀ a ∈ as, Arg a) : D.frees as = true := (D.frees_iff _).mpr fun d hd => (h d hd).fr
theorem frees_due {bs : List Bool} {v : D} (h : v.free = true) : D.frees (bs.map .bool ++ [v]) = true := (D.frees_iff _).mpr fun d hd => by
  rcases List.mem_append.mp hd with hd | hd
  · obtain ⟨b, _, rfl⟩ := List.mem_map.mp hd; rfl
  · rw [List.mem_singleton] at hd; subst hd; exact h
theorem args2 {a b : D} (h : Arg a) (k : Arg b) : ∀ x ∈ [a, b], Arg x := fun x hx => by
  simp only [List.mem_cons, List.not_mem_nil, or_false] at hx
  rcases hx with rfl | rfl <;> assumption
theorem askok_free {μ : Cells} {d : D} (h : AskOk μ d) : d.free = true := by
  obtain ⟨i, as, due, x, rfl, h1, h2, _⟩ := h
  simp [D.free, D.frees, h1, h2]
theorem arg_str (x : Str) (h : ((PyData.str x).leavesShort 13 && decide ((PyData.str x).bulk ≤ 3000) && decide ((PyData.str x).depth ≤ 2)) = true) : Arg (.str x) := ⟨rfl, (tame_str h).mono (by omega) (by omega)⟩
theorem arg_web {m : Int} {ts : List Tie} (w : Web m ts) : Arg (webD false m ts) := ⟨by simp [webD, D.free, D.frees, frees_ties], (tame_web w false).mono (by omega) (by omega)⟩
def T0 : M Fl := (asg (thawM (DL.call F__law_generator (argsC (gS 0) (argsC (gS 1) args0)))) (toN 2))
def T1 : M Fl := (asg (DL.call F__law_web (argsC (gS 2) (argsC (kst (.int 5)) (argsC (kst (.int 3)) args0)))) (toN 3))
def T2 : M Fl := (par2 4 5 (argsC (DL.call F__law_order (argsC (gS 2) (argsC (ixM (gP 3) (kst (.int 1))) args0))) (argsC (cliI reprD (argsC (gP 3) args0)) args0)))
def T3 : M Fl := (par2 6 7 (argsC (DL.call F__law_renamed (argsC (gS 3) (argsC (gS 4) args0))) (argsC (thawD (DL.call F_renamed_web (argsC (gS 3) (argsC (gS 4) args0)))) args0)))
def T4 : M Fl := (ifS (orB (notB (tst (DL.call (F__law_exact 12) (argsC (shrM (dspL (argsC (gS 6) (argsC (gS 6) args0)))) (argsC (shrM (dspL (argsC (gS 7) (argsC (callK F_renamed_web [1, 0] args0 (argsC (gS 4) (argsC (gS 3) args0))) args0)))) args0))))) (notB (tst (DL.call F__law_own (argsC (gS 2) (argsC (thawD (ixM (gP 7) (kst (.int 2)))) (argsC (dspL (argsC (gS 3) (argsC (gS 4) args0))) args0))))))) (rtn (kst (.bool false))) skp)
def T5 : M Fl := (forS (itS (dspL (argsC (gS 6) (argsC (DL.call F__law_web (argsC (gS 2) (argsC (kst (.int 5)) (argsC (kst (.int 2)) args0)))) args0)))) (toN 8) (sq (asg (comp [15] (itS (DL.call F__law_all (argsC (ixM (gP 3) (kst (.int 1))) args0))) (toN 15) (andB (tst (binI eqE (ixM (gP 8) (kst (.int 1))) (ixM (gP 3) (kst (.int 1))))) (tst (binI eqE (DL.call F__law_renamed (argsC (gS 3) (argsC (gS 15) args0))) (gP 8)))) (gS 15)) (toN 9)) (sq (asg (ifV (tst (binI neE (gP 9) (dspL args0))) (ixM (gP 9) (kst (.int 0))) (kst .none)) (toN 10)) (sq (ifS (notB (tst (DL.call (F__law_exact 12) (argsC (shrM (dspL (argsC (gS 10) (argsC (gS 10) args0)))) (argsC (shrM (dspL (argsC (DL.call F_renaming (argsC (gS 3) (argsC (gS 8) args0))) (argsC (callK F_renaming [1, 0] args0 (argsC (gS 8) (argsC (gS 3) args0))) args0)))) args0))))) (rtn (kst (.bool false))) skp) (ifS (andB (tst (binI isntD (gP 10) (kst .none))) (notB (tst (DL.call F__law_own (argsC (gS 2) (argsC (thawD (DL.call F_renaming (argsC (gS 3) (argsC (gS 8) args0)))) (argsC (dspL (argsC (gS 3) (argsC (gS 8) args0))) args0))))))) (rtn (kst (.bool false))) skp)))))
def T6 : M Fl := (asg (dspT (argsC (DL.call F__law_no_web (argsC (gS 2) (argsC (gS 3) args0))) (argsC (ixM (gP 3) (kst (.int 1))) args0))) (toT 2 (tgsC (toN 11) (tgsC (toN 12) tgs0))))
def T7 : M Fl := (asg (binC addD (comp [15, 16] (itS (dspL (argsC (dspT (argsC (kst (.int 0)) (argsC (kst (.str "z")) args0))) (argsC (dspT (argsC (kst (.int 1)) (argsC (kst (.str "z")) args0))) (argsC (dspT (argsC (kst (.int 0)) (argsC (gS 4) args0))) (argsC (dspT (argsC (kst (.int 1)) (argsC (gS 3) args0))) args0)))))) (toT 2 (tgsC (toN 16) (tgsC (toN 15) tgs0))) tst1 (dspT (argsC (gS 16) (argsC (dspT (argsC (gS 11) (argsC (gS 15) args0))) (argsC (dspL (argsC (kst (.bool true)) (argsC (kst (.bool false)) (argsC (gS 11) args0)))) args0))))) (dspL (argsC (dspT (argsC (kst (.int 1)) (argsC (dspT (argsC (gS 3) (argsC (gS 11) args0))) (argsC (dspL (argsC (kst (.bool true)) (argsC (kst (.bool false)) (argsC (gS 11) args0)))) args0)))) args0))) (toN 13))
def T8 : M Fl := (forS (itS (dspL (argsC (kst .none) (argsC (dspT args0) (argsC (cliC tupleD (argsC (gC 4) args0)) (argsC (binC addD (gC 4) (dspL (argsC (gS 12) args0))) (argsC (slM (gC 4) (o1 (kst (.int 1))) o0) (argsC (binC mulD (dspL (argsC (kst (.int 0)) args0)) (binC addD (gC 12) (kst (.int 1)))) (argsC (kst (.dic [] [])) (argsC (binC mulD (dspL (argsC (kst .none) args0)) (gC 12)) (argsC (binC mulD (dspL (argsC (kst (.str "0")) args0)) (gC 12)) (argsC (binC addD (slM (gC 4) o0 (o1 (unM negD (kst (.int 1))))) (dspL (argsC (gS 12) args0))) (argsC (comp [15] (itS (gS 4)) (toN 15) tst1 (ifV (tst (binI ltD (gP 15) (kst (.int 2)))) (binI eqE (gP 15) (kst (.int 1))) (gS 15))) args0))))))))))))) (toN 14) (drp (mtM appO 13 (argsC (dspT (argsC (kst (.int 0)) (argsC (dspT (argsC (gS 3) (argsC (gS 14) args0))) (argsC (dspL (argsC (kst (.bool false)) (argsC (kst (.bool true)) (argsC (gS 14) args0)))) args0)))) args0))))
def T9 : M Fl := (ifS (orB (tst (binI neE (comp [17] (itS (gS 13)) (toN 17) (tst (binI neE (DL.call F__law_caught (argsC (ixM (gP 17) (kst (.int 0))) (argsC (ixM (gP 17) (kst (.int 1))) args0))) (cliI reprD (argsC (ixM (gP 17) (kst (.int 2))) args0)))) (gS 17)) (dspL args0))) (tst (binI neE (cliI reprD (argsC (gP 3) args0)) (gP 5)))) (rtn (kst (.bool false))) skp)
def turnB : M Fl := (sq T0 (sq T1 (sq T2 (sq T3 (sq T4 (sq T5 (sq T6 (sq T7 (sq T8 T9)))))))))
theorem T0_ok {o3 o4 o5 o6 o7 o8 o9 o10 o11 o12 o13 o14 : Option D} {o2 : Option D} {ns : List Int} {i : Nat} {μ : Cells} (h : i ≤ 3) :
    ∃ k μ', T0 ⟨[some (.frz (ns.map .int)), some (.int (i : Int)), o2, o3, o4, o5, o6, o7, o8, o9, o10, o11, o12, o13, o14, none, none, none], μ⟩ = some (.ok .nx, ⟨[some (.frz (ns.map .int)), some (.int (i : Int)), some (.cell k), o3, o4, o5, o6, o7, o8, o9, o10, o11, o12, o13, o14, none, none, none], μ'⟩) ∧ Gen 3000 k μ' := by
  obtain ⟨L, e, g⟩ := generator_ok ns i μ
  refine ⟨μ.length, μ ++ [D.shares L], ?_, ⟨D.shares L, by simp, g.mono (by omega)⟩⟩
  have hsn : D.shares (ns.map D.int) = ns.map .int := shares_ints ns
  generalize ns.map D.int = NS at *
  simp [T0, hsn, e]
theorem T1_ok {o0 o1 o4 o5 o6 o7 o8 o9 o10 o11 o12 o13 o14 : Option D} {o3 : Option D} {n k : Nat} {μ : Cells} (g : Gen n k μ) (hn : n < 1000000) :
    ∃ a ts μ', T1 ⟨[o0, o1, some (.cell k), o3, o4, o5, o6, o7, o8, o9, o10, o11, o12, o13, o14, none, none, none], μ⟩ = some (.ok .nx, ⟨[o0, o1, some (.cell k), some (webD true a ts), o4, o5, o6, o7, o8, o9, o10, o11, o12, o13, o14, none, none, none], μ'⟩) ∧ Gen (n + 10000) k μ' ∧ Web a ts ∧ a ≤ 5 := by
  obtain ⟨a, ts, μ1, e1, g1, w1, h1⟩ := law_web_ok (b := 5) (q := 3) g (by omega) (by omega) (by omega) (by omega) (by omega)
  exact ⟨a, ts, μ1, by simp [T1, e1], g1, w1, h1⟩
theorem T2_ok {o0 o1 o6 o7 o8 o9 o10 o11 o12 o13 o14 : Option D} {o4 o5 : Option D} {n k : Nat} {a : Int} {ts : List Tie} {μ : Cells} (g : Gen n k μ) (hn : n < 1000000) (w : Web a ts) :
    ∃ (o : List Int) (μ' : Cells), T2 ⟨[o0, o1, some (.cell k), some (webD true a ts), o4, o5, o6, o7, o8, o9, o10, o11, o12, o13, o14, none, none, none], μ⟩ = some (.ok .nx, ⟨[o0, o1, some (.cell k), some (webD true a ts), some (.lst true (o.map .int)), some (.str (webD false a ts).py.shown), o6, o7, o8, o9, o10, o11, o12, o13, o14, none, none, none], μ'⟩) ∧ Gen (n + 1000) k μ' ∧ o.Perm (ups a) := by
  obtain ⟨o, μ1, e1, p, g1⟩ := lord_ok g w.m1 w.m2 (by omega)
  have i1 : ∀ ν, ixM (gP 3) (kst (.int 1)) ⟨[o0, o1, some (.cell k), some (webD true a ts), o4, o5, o6, o7, o8, o9, o10, o11, o12, o13, o14, none, none, none], ν⟩ = some (.ok (.val (.int a)), ⟨[o0, o1, some (.cell k), some (webD true a ts), o4, o5, o6, o7, o8, o9, o10, o11, o12, o13, o14, none, none, none], ν⟩) := fun _ => rfl
  have i2 : ∀ ν, cliI reprD (argsC (gP 3) args0) ⟨[o0, o1, some (.cell k), some (webD true a ts), o4, o5, o6, o7, o8, o9, o10, o11, o12, o13, o14, none, none, none], ν⟩ = some (.ok (.val (.str (webD false a ts).py.shown)), ⟨[o0, o1, some (.cell k), some (webD true a ts), o4, o5, o6, o7, o8, o9, o10, o11, o12, o13, o14, none, none, none], ν⟩) := fun _ => repr_pk (v := webD true a ts) (k := 10000) (j := 3) rfl (tame_web w true) (by omega) (by omega)
  refine ⟨o, μ1, ?_, g1, p⟩
  generalize (webD false a ts).py.shown = K at *
  generalize webD true a ts = W at *
  generalize o.map D.int = OD at *
  simp [T2, ↓i1, ↓i2, e1]
theorem T3_ok {o0 o1 o2 o5 o8 o9 o10 o11 o12 o13 o14 : Option D} {o6 o7 : Option D} {a : Int} {ts : List Tie} {o : List Int} {μ : Cells} (w : Web a ts) (p : o.Perm (ups a)) :
    T3 ⟨[o0, o1, o2, some (webD true a ts), some (.lst true (o.map .int)), o5, o6, o7, o8, o9, o10, o11, o12, o13, o14, none, none, none], μ⟩ = some (.ok .nx, ⟨[o0, o1, o2, some (webD false a ts), some (rowF o), o5, some (webD true a (made (renT ts o))), some (webC a μ.length), o8, o9, o10, o11, o12, o13, o14, none, none, none], μ ++ [(made (renT ts o)).map tieD]⟩) := by
  have e1 := lren_ok (μ := μ) w (ord_perm (by have := w.m1; omega) p).hi
  have e2 := rweb_ok (μ := μ) w p
  have s1 := webS_share true a ts
  have s2 := webS_share false a ts
  have s3 := shares_ints o
  have hth := web_thaw true rfl a (made (renT ts o)) μ.length
  unfold rowF at *
  generalize (made (renT ts o)).map tieD = P at *
  generalize webD true a (made (renT ts o)) = DW at *
  generalize webD true a ts = W1 at *
  generalize webD false a ts = W2 at *
  generalize o.map D.int = OD at *
  simp [T3, e1, e2, s1, s2, s3, thawD_ap, hth]
theorem ints_res7 {μ : Cells} (n : Nat) : ∀ l : List Int, optAll ((l.map .int).map (D.res μ (n + 1))) = some (l.map .int)
  | [] => rfl
  | z :: l => by
    have ih := ints_res7 (μ := μ) n l
    have h : D.res μ (n + 1) (.int z) = some (.int z) := rfl
    generalize hm : (l.map D.int) = L at *
    simp only [List.map_cons, optAll, h, hm, ih]
theorem row_res (μ : Cells) (n : Nat) (o : List Int) : D.res μ (n + 2) (rowF o) = some (rowT o) := by
  have h := ints_res7 (μ := μ) n o
  unfold rowF rowT
  rw [D.res, h]; rfl
theorem tame_rowx {l : List Int} (b : Bool) (hb : ∀ x ∈ l, -999999999999 ≤ x ∧ x ≤ 999999999999) (hl : l.length ≤ 10) : Tame 10 1 (.lst b (l.map .int)) :=
  Tame.lst (k := 0) (j := 0) (fun d hd => by obtain ⟨z, hz, rfl⟩ := List.mem_map.mp hd; exact Tame.int (hb z hz).1 (hb z hz).2) 10 (by rw [List.length_map]; exact hl)
theorem ord_small {m : Int} {o : List Int} (h : Ord m o) (h7 : m ≤ 7) : (∀ x ∈ o, -999999999999 ≤ x ∧ x ≤ 999999999999) ∧ o.length ≤ 7 := ⟨fun x hx => by have := h.lo x hx; omega, by have := h.ln; omega⟩
theorem T4_ok {o0 o1 o5 o8 o9 o10 o11 o12 o13 o14 : Option D} {n k c : Nat} {a : Int} {ts : List Tie} {o : List Int} {μ : Cells} (g : Gen n k μ) (hn : n < 1000000) (w : Web a ts) (p : o.Perm (ups a)) (hc : μ[c]? = some ((made (renT ts o)).map tieD)) (hkc : c ≠ k) :
    ∃ μ', T4 ⟨[o0, o1, some (.cell k), some (webD false a ts), some (rowF o), o5, some (webD true a (made (renT ts o))), some (webC a c), o8, o9, o10, o11, o12, o13, o14, none, none, none], μ⟩ = some (.ok .nx, ⟨[o0, o1, some (.cell k), some (webD false a ts), some (rowF o), o5, some (webD false a (made (renT ts o))), some (webC a c), o8, o9, o10, o11, o12, o13, o14, none, none, none], μ'⟩) ∧ Gen (n + 600) k μ' := by
  have ho := ord_perm (by have := w.m1; omega) p
  have wp := ren_web w ho
  have e := rweb_ok (μ := μ) w p
  generalize hP : made (renT ts o) = P at *
  have hpl := wp.len
  have x0 := exq_webC (n := 0) (m := a) hc (by omega)
  have x1 := exq_refl (μ := μ) 3 (webD false a P) (exB_web 0 false rfl (by omega))
  have frW : (webD false a P).free = true := by simp [webD, D.free, D.frees, frees_ties]
  have ex : F__law_exact 12 [.lst false [webD false a P, webD false a P], .lst false [webC a c, webD false a P]] μ = some (.ok (.bool true), μ) :=
    exact_ok (n := 4) 7 (exqs_ll (n := 3) ⟨x0, x1, trivial⟩ (by simp [D.frees, frW]) (by simp [D.frees, D.free, webC, frW]) (by simp))
  have hsb : ∀ t ∈ P, -999999999999 ≤ t.1 ∧ t.1 ≤ 999999999999 ∧ -999999999999 ≤ t.2.1 ∧ t.2.1 ≤ 999999999999 ∧ -999999999999 ≤ t.2.2 ∧ t.2.2 ≤ 999999999999 := fun u hu => by
    have ok := wp.T.ok u hu
    have := wp.m2
    omega
  have sm := ord_small ho w.m2
  obtain ⟨μ4, e4, g4, _, _⟩ := own_tree (told := .cell c) (given := .lst true [webD false a ts, rowF o]) (g' := .lst true [webD true a ts, rowT o]) (L := [.cell c]) (kk := 16000) (j := 2) g (by omega) rfl
    (fun μ' h => tree_tiesC (ts := P) (by rw [h _ hkc]; exact hc) hpl hsb) (by simp) (by simp) (by omega) (by omega) (fun μ' => by
      have h1 := web_res (μ := μ') 55 false a ts
      have h2 := row_res μ' 57 o
      show (optAll ([webD false a ts, rowF o].map (D.res μ' 59))).map (D.lst true) = _
      simp only [List.map_cons, List.map_nil, optAll_cons, h1, h2]; rfl) ((Tame.lst (k := 10000) (j := 3) (fun d hd => by
      simp only [List.mem_cons, List.not_mem_nil, or_false] at hd
      rcases hd with rfl | rfl
      · exact tame_web w true
      · exact (tame_rowx true sm.1 (by omega)).mono (by omega) (by omega)) 2 (by simp)).mono (by omega) (by omega))
  have hws : (webD true a P).share = webD false a P := webS_share _ _ _
  have hwf' : (webD false a P).share = webD false a P := webS_share _ _ _
  have s1 := webS_share false a ts
  have s2 : (rowF o).share = rowF o := by show D.lst false (D.shares (o.map .int)) = _; rw [shares_ints]; rfl
  have hwC : (webC a c).share = webC a c := by simp [webC]
  have hix : ∀ ν, ixM (gP 7) (kst (.int 2)) ⟨[o0, o1, some (.cell k), some (webD false a ts), some (rowF o), o5, some (webD false a P), some (webC a c), o8, o9, o10, o11, o12, o13, o14, none, none, none], ν⟩ = some (.ok (.val (.cell c)), ⟨[o0, o1, some (.cell k), some (webD false a ts), some (rowF o), o5, some (webD false a P), some (webC a c), o8, o9, o10, o11, o12, o13, o14, none, none, none], ν⟩) := fun ν => by
    generalize webD false a ts = W1
    generalize rowF o = W2
    generalize webD false a P = W3
    simp [webC, D.frees, D.free]
  refine ⟨μ4, ?_, g4⟩
  generalize webD true a P = DW at *
  generalize webD false a P = DF at *
  generalize webD false a ts = W1 at *
  generalize rowF o = W2 at *
  generalize webC a c = WC at *
  simp [T4, shrM_ap, re2, e, ex, hws, hwf', s1, s2, hwC, ↓hix, thawD_ap, D.thaw, e4]
def b5a : M Fl := (asg (comp [15] (itS (DL.call F__law_all (argsC (ixM (gP 3) (kst (.int 1))) args0))) (toN 15) (andB (tst (binI eqE (ixM (gP 8) (kst (.int 1))) (ixM (gP 3) (kst (.int 1))))) (tst (binI eqE (DL.call F__law_renamed (argsC (gS 3) (argsC (gS 15) args0))) (gP 8)))) (gS 15)) (toN 9))
def b5b : M Fl := (asg (ifV (tst (binI neE (gP 9) (dspL args0))) (ixM (gP 9) (kst (.int 0))) (kst .none)) (toN 10))
def b5c : M Fl := (ifS (notB (tst (DL.call (F__law_exact 12) (argsC (shrM (dspL (argsC (gS 10) (argsC (gS 10) args0)))) (argsC (shrM (dspL (argsC (DL.call F_renaming (argsC (gS 3) (argsC (gS 8) args0))) (argsC (callK F_renaming [1, 0] args0 (argsC (gS 8) (argsC (gS 3) args0))) args0)))) args0))))) (rtn (kst (.bool false))) skp)
def b5d : M Fl := (ifS (andB (tst (binI isntD (gP 10) (kst .none))) (notB (tst (DL.call F__law_own (argsC (gS 2) (argsC (thawD (DL.call F_renaming (argsC (gS 3) (argsC (gS 8) args0)))) (argsC (dspL (argsC (gS 3) (argsC (gS 8) args0))) args0))))))) (rtn (kst (.bool false))) skp)
theorem T5_is : T5 = forS (itS (dspL (argsC (gS 6) (argsC (DL.call F__law_web (argsC (gS 2) (argsC (kst (.int 5)) (argsC (kst (.int 2)) args0)))) args0)))) (toN 8) (sq b5a (sq b5b (sq b5c b5d))) := rfl
def wayP (a b : Int) (ts us : List Tie) (o : List Int) : Bool := decide (b = a) && rnP ts us o
def ways (a b : Int) (ts us : List Tie) : List (List Int) := (ordL a a.toNat).filter (wayP a b ts us)
def keepR (q : List Int → Bool) (d : D) : Option D := match d with
  | .lst _ xs => match intsD xs with
    | some o => if q o then some (.lst false xs) else none
    | none => none
  | _ => none
theorem keepR_row (q : List Int → Bool) (o : List Int) : keepR q (rowF o) = if q o then some (rowF o) else none := by
  simp only [keepR, rowF, intsD_map]
theorem keepR_all (q : List Int → Bool) : ∀ R : List (List Int), (R.map rowF).filterMap (keepR q) = (R.filter q).map rowF
  | [] => rfl
  | r :: R => by
    have ih := keepR_all q R
    rw [List.map_cons, List.filterMap_cons, keepR_row, List.filter_cons]
    by_cases c : q r = true
    · rw [if_pos c, if_pos c, ih]; rfl
    · rw [if_neg c, if_neg c, ih]
theorem b5a_ok {o0 o1 o2 o4 o5 o6 o7 o10 o11 o12 o13 o14 : Option D} {o9 : Option D} {a b : Int} {ts us : List Tie} {μ : Cells} (w : Web a ts) (a5 : a ≤ 5) :
    b5a ⟨[o0, o1, o2, some (webD false a ts), o4, o5, o6, o7, some (webD false b us), o9, o10, o11, o12, o13, o14, none, none, none], μ⟩ = some (.ok .nx, ⟨[o0, o1, o2, some (webD false a ts), o4, o5, o6, o7, some (webD false b us), some (.lst true ((ways a b ts us).map rowF)), o10, o11, o12, o13, o14, none, none, none], μ⟩) := by
  have a1 := w.m1
  have hl := lall7 (μ := μ) a1 a5
  have hln := ordL_len a1 a5
  have hoo : ∀ r ∈ ordL a a.toNat, Ord a r := fun r hr => ordL_ord a1 a5 hr
  have i1 : ∀ x ν, ixM (gP 3) (kst (.int 1)) ⟨[o0, o1, o2, some (webD false a ts), o4, o5, o6, o7, some (webD false b us), o9, o10, o11, o12, o13, o14, x, none, none], ν⟩ = some (.ok (.val (.int a)), ⟨[o0, o1, o2, some (webD false a ts), o4, o5, o6, o7, some (webD false b us), o9, o10, o11, o12, o13, o14, x, none, none], ν⟩) := fun _ _ => rfl
  have i2 : ∀ x ν, ixM (gP 8) (kst (.int 1)) ⟨[o0, o1, o2, some (webD false a ts), o4, o5, o6, o7, some (webD false b us), o9, o10, o11, o12, o13, o14, x, none, none], ν⟩ = some (.ok (.val (.int b)), ⟨[o0, o1, o2, some (webD false a ts), o4, o5, o6, o7, some (webD false b us), o9, o10, o11, o12, o13, o14, x, none, none], ν⟩) := fun _ _ => rfl
  have s1 := webS_share false a ts
  unfold ways
  generalize ordL a a.toNat = R at *
  have hi : itS (DL.call F__law_all (argsC (ixM (gP 3) (kst (.int 1))) args0)) ⟨[o0, o1, o2, some (webD false a ts), o4, o5, o6, o7, some (webD false b us), o9, o10, o11, o12, o13, o14, none, none, none], μ⟩ = some (.ok (.fix (R.map rowF)), ⟨[o0, o1, o2, some (webD false a ts), o4, o5, o6, o7, some (webD false b us), o9, o10, o11, o12, o13, o14, none, none, none], μ⟩) := by
    have hsr := shares_rowsF R
    have i1 := i1 none μ
    generalize R.map rowF = RF at *
    generalize webD false a ts = W at *
    generalize webD false b us = V at *
    simp [↓i1, hl, hsr]
  have e := comp_filw (own := [15]) (f := toN 15) (t := andB (tst (binI eqE (ixM (gP 8) (kst (.int 1))) (ixM (gP 3) (kst (.int 1))))) (tst (binI eqE (DL.call F__law_renamed (argsC (gS 3) (argsC (gS 15) args0))) (gP 8)))) (e := gS 15) (s' := ⟨[o0, o1, o2, some (webD false a ts), o4, o5, o6, o7, some (webD false b us), o9, o10, o11, o12, o13, o14, none, none, none], μ⟩) (keepR (wayP a b ts us)) hi rfl (by rw [List.length_map]; omega) rfl (by
    intro d hd
    obtain ⟨o, ho, rfl⟩ := List.mem_map.mp hd
    have hr := lren_ok (μ := μ) w (hoo o ho).hi
    have hq := eq_webs true false a b (made (renT ts o)) us
    have so : (rowF o).share = rowF o := by show D.lst false (D.shares (o.map .int)) = _; rw [shares_ints]; rfl
    refine ⟨⟨[o0, o1, o2, some (webD false a ts), o4, o5, o6, o7, some (webD false b us), o9, o10, o11, o12, o13, o14, some (rowF o), none, none], μ⟩, wayP a b ts us o, ⟨[o0, o1, o2, some (webD false a ts), o4, o5, o6, o7, some (webD false b us), o9, o10, o11, o12, o13, o14, some (rowF o), none, none], μ⟩, rfl, ?_, ?_⟩
    · have i1 := i1 (some (rowF o)) μ
      have i2 := i2 (some (rowF o)) μ
      unfold wayP rnP
      generalize made (renT ts o) = P at *
      have e2 : webD true a P = .tup [.str "web", .int a, .lst true (P.map tieD)] := rfl
      have e3 : webD false b us = .tup [.str "web", .int b, .lst false (us.map tieD)] := rfl
      rw [e2] at hr hq
      rw [e3] at hq i1 i2 ⊢
      clear e2 e3 hl hi hoo
      generalize webD false a ts = W at *
      generalize P.map tieD = PD at *
      generalize us.map tieD = UD at *
      generalize rowF o = RO at *
      by_cases c : b = a
      · have hz : decide (b = a) = true := decide_eq_true c
        have hz2 : (b == a) = true := by simpa using c
        have hz3 : decide (a = b ∧ P = us) = decide (P = us) := by
          by_cases c2 : P = us <;> simp [c.symm, c2]
        rw [hz3] at hq
        by_cases c2 : P = us
        · have h4 : decide (P = us) = true := decide_eq_true c2
          rw [h4] at hq
          simp [↓i1, ↓i2, s1, so, hr, hq, hz, hz2, h4]
        · have h4 : decide (P = us) = false := decide_eq_false c2
          rw [h4] at hq
          simp [↓i1, ↓i2, s1, so, hr, hq, hz, hz2, h4]
      · have hz : decide (b = a) = false := decide_eq_false c
        have hz2 : (b == a) = false := by simpa using c
        simp [↓i1, ↓i2, hz, hz2]
    · have so' := so
      by_cases c : wayP a b ts us o = true
      · refine .inr ⟨c, rowF o, ⟨[o0, o1, o2, some (webD false a ts), o4, o5, o6, o7, some (webD false b us), o9, o10, o11, o12, o13, o14, some (rowF o), none, none], μ⟩, by rw [keepR_row, if_pos c], ?_, rfl⟩
        generalize rowF o = RO at *
        simp [so]
      · refine .inl ⟨by simpa using c, by rw [keepR_row, if_neg c], rfl⟩)
  rw [keepR_all] at e
  generalize (R.filter (wayP a b ts us)).map rowF = WR at *
  generalize webD false a ts = W at *
  generalize webD false b us = V at *
  simp [b5a, ↓e]
def fD : Option (List Int) → D
  | none => .none
  | some o => rowF o
theorem ways_head (a b : Int) (ts us : List Tie) : (ways a b ts us).head? = renF a b ts us := by
  unfold ways renF
  rw [List.head?_filter]
  by_cases c : a = b
  · rw [if_pos c]
    congr 1
    funext o
    unfold wayP
    rw [decide_eq_true c.symm, Bool.true_and]
  · rw [if_neg c, List.find?_eq_none]
    intro o _
    unfold wayP
    rw [decide_eq_false (fun h => c h.symm), Bool.false_and]
    simp
theorem b5b_ok {o0 o1 o2 o3 o4 o5 o6 o7 o8 o11 o12 o13 o14 : Option D} {o10 : Option D} {a b : Int} {ts us : List Tie} {μ : Cells} :
    b5b ⟨[o0, o1, o2, o3, o4, o5, o6, o7, o8, some (.lst true ((ways a b ts us).map rowF)), o10, o11, o12, o13, o14, none, none, none], μ⟩ = some (.ok .nx, ⟨[o0, o1, o2, o3, o4, o5, o6, o7, o8, some (.lst true ((ways a b ts us).map rowF)), some (fD (renF a b ts us)), o11, o12, o13, o14, none, none, none], μ⟩) := by
  rw [← ways_head]
  generalize ways a b ts us = R
  cases R with
  | nil => rfl
  | cons r R =>
    have hf := frees_rows (r :: R)
    have hn := neE_nil true true ((r :: R).map rowF)
    simp only [List.map_cons, List.head?_cons, fD, List.isEmpty_cons, Bool.not_false] at *
    generalize R.map rowF = RF at *
    generalize rowF r = rf at *
    have hfr : rf.free = true := (D.frees_iff _).mp hf rf (by simp)
    have ha : atI (rf :: RF) 0 = some rf := atI_of (xs := rf :: RF) (k := 0) rfl
    have hx := ixN_of (n := RF.length + 1) (r := 0) (by omega) (by omega)
    simp [b5b, hn, hf, hx, itemOf.pick, ha, hfr]
theorem b5c_ok {o0 o1 o2 o4 o5 o6 o7 o9 o11 o12 o13 o14 : Option D} {a b : Int} {ts us : List Tie} {μ : Cells} (w : Web a ts) (a5 : a ≤ 5) (w2 : Web b us) :
    ∃ X, b5c ⟨[o0, o1, o2, some (webD false a ts), o4, o5, o6, o7, some (webD false b us), o9, some (fD (renF a b ts us)), o11, o12, o13, o14, none, none, none], μ⟩ = some (.ok .nx, ⟨[o0, o1, o2, some (webD false a ts), o4, o5, o6, o7, some (webD false b us), o9, some (fD (renF a b ts us)), o11, o12, o13, o14, none, none, none], μ ++ X⟩) := by
  obtain ⟨X1, r1, e1, p1, q1⟩ := renaming_ok (μ := μ) w a5 w2
  obtain ⟨X2, r2, e2, p2, q2⟩ := renaming_ok (μ := μ ++ X1) w a5 w2
  have hfs : (fD (renF a b ts us)).share = fD (renF a b ts us) := by
    cases renF a b ts us with
    | none => rfl
    | some o => show D.lst false (D.shares (o.map .int)) = _; rw [shares_ints]; rfl
  have key : r1.share = r1 ∧ r2.share = r2 ∧ F__law_exact 12 [.lst false [fD (renF a b ts us), fD (renF a b ts us)], .lst false [r1, r2]] (μ ++ X1 ++ X2) = some (.ok (.bool true), μ ++ X1 ++ X2) := by
    cases hr : renF a b ts us with
    | none =>
      rw [p1 hr, p2 hr]
      exact ⟨rfl, rfl, exact_ok (n := 1) 10 (exqs_ll (n := 0) ⟨.none, .none, trivial⟩ rfl rfl (by simp))⟩
    | some o =>
      obtain ⟨c1, rfl, l1, k1⟩ := q1 o hr
      obtain ⟨c2, rfl, l2, k2⟩ := q2 o hr
      have k1' : (μ ++ X1 ++ X2)[c1]? = some (o.map .int) := by
        rw [List.getElem?_append_left (List.getElem?_eq_some_iff.mp k1).1]; exact k1
      have ho : Ord a o := by
        unfold renF at hr
        by_cases c : a = b
        · rw [if_pos c] at hr
          exact ordL_ord w.m1 a5 (List.mem_of_find?_eq_some hr)
        · rw [if_neg c] at hr; cases hr
      have hl : o.length ≤ 7 := (ord_small ho w.m2).2
      have fi := frees_ints o
      have xq : ∀ c, (μ ++ X1 ++ X2)[c]? = some (o.map .int) → Exq (μ ++ X1 ++ X2) 1 (fD (some o)) (.cell c) := fun c hc =>
        .lst ⟨.inl ⟨false, rfl⟩, fi, by rw [List.length_map]; omega⟩ ⟨.inr ⟨_, rfl, hc⟩, fi, by rw [List.length_map]; omega⟩ rfl fun i x y hx hy => by
          rw [hx] at hy; cases hy
          obtain ⟨z, _, rfl⟩ := List.mem_map.mp (List.mem_of_getElem? hx)
          exact .int z
      exact ⟨rfl, rfl, exact_ok (n := 2) 9 (exqs_ll (n := 1) ⟨xq _ k1', xq _ k2, trivial⟩ (by simp [D.frees, D.free, fD, rowF, fi]) (by simp [D.frees, D.free]) (by simp))⟩
  obtain ⟨t1, t2, ex⟩ := key
  have s1 := webS_share false a ts
  have s2 := webS_share false b us
  refine ⟨X1 ++ X2, ?_⟩
  rw [← List.append_assoc]
  generalize fD (renF a b ts us) = FD at *
  generalize webD false a ts = W at *
  generalize webD false b us = V at *
  generalize μ ++ X1 = M1 at *
  generalize M1 ++ X2 = M2 at *
  simp [b5c, shrM_ap, re2, hfs, s1, s2, e1, e2, t1, t2, ex]
theorem b5d_ok {o0 o1 o4 o5 o6 o7 o9 o11 o12 o13 o14 : Option D} {n k : Nat} {a b : Int} {ts us : List Tie} {μ : Cells} (g : Gen n k μ) (hn : n < 1000000) (w : Web a ts) (a5 : a ≤ 5) (w2 : Web b us) :
    ∃ μ', b5d ⟨[o0, o1, some (.cell k), some (webD false a ts), o4, o5, o6, o7, some (webD false b us), o9, some (fD (renF a b ts us)), o11, o12, o13, o14, none, none, none], μ⟩ = some (.ok .nx, ⟨[o0, o1, some (.cell k), some (webD false a ts), o4, o5, o6, o7, some (webD false b us), o9, some (fD (renF a b ts us)), o11, o12, o13, o14, none, none, none], μ'⟩) ∧ Gen (n + 600) k μ' := by
  obtain ⟨X1, r1, e1, p1, q1⟩ := renaming_ok (μ := μ) w a5 w2
  have s1 := webS_share false a ts
  have s2 := webS_share false b us
  cases hr : renF a b ts us with
  | none =>
    refine ⟨μ, ?_, g.mono (by omega)⟩
    generalize webD false a ts = W at *
    generalize webD false b us = V at *
    have hi : isntD .none .none = some (.bool false) := rfl
    simp [b5d, fD, hi]
  | some o =>
    obtain ⟨c1, rfl, l1, k1⟩ := q1 o hr
    have ho : Ord a o := by
      unfold renF at hr
      by_cases c : a = b
      · rw [if_pos c] at hr
        exact ordL_ord w.m1 a5 (List.mem_of_find?_eq_some hr)
      · rw [if_neg c] at hr; cases hr
    have sm := ord_small ho w.m2
    have g1 : Gen n k (μ ++ X1) := g.keep fun i hi => by rw [List.getElem?_append_left hi]
    have hck : c1 ≠ k := by have := g.lt; omega
    obtain ⟨μ4, e4, g4, _, _⟩ := own_tree (told := .cell c1) (given := .lst true [webD false a ts, webD false b us]) (g' := .lst true [webD true a ts, webD true b us]) (L := [.cell c1]) (kk := 50) (j := 1) g1 (by omega) rfl
      (fun μ' h => tree_ints (l := o) (by rw [h _ hck]; exact k1) (by omega) sm.1) (by simp) (by simp) (by omega) (by omega) (fun μ' => by
        have h1 := web_res (μ := μ') 55 false a ts
        have h2 := web_res (μ := μ') 55 false b us
        show (optAll ([webD false a ts, webD false b us].map (D.res μ' 59))).map (D.lst true) = _
        simp only [List.map_cons, List.map_nil, optAll_cons, h1, h2]; rfl) ((Tame.lst (k := 10000) (j := 3) (fun d hd => by
        simp only [List.mem_cons, List.not_mem_nil, or_false] at hd
        rcases hd with rfl | rfl
        · exact tame_web w true
        · exact tame_web w2 true) 2 (by simp)).mono (by omega) (by omega))
    refine ⟨μ4, ?_, g4⟩
    have hi : ∀ xs, isntD (.lst false xs) .none = some (.bool true) := fun _ => rfl
    unfold fD rowF
    generalize o.map D.int = od at *
    generalize webD false a ts = W at *
    generalize webD false b us = V at *
    generalize μ ++ X1 = M1 at *
    simp [b5d, hi, s1, s2, e1, thawD_ap, D.thaw, e4]
theorem T5_ok {o0 o1 o4 o5 o7 o11 o12 o13 o14 : Option D} {o8 o9 o10 : Option D} {n k : Nat} {a : Int} {ts ps : List Tie} {μ : Cells} (g : Gen n k μ) (hn : n < 900000) (w : Web a ts) (a5 : a ≤ 5) (wp : Web a ps) :
    ∃ p8 p9 p10 μ', T5 ⟨[o0, o1, some (.cell k), some (webD false a ts), o4, o5, some (webD false a ps), o7, o8, o9, o10, o11, o12, o13, o14, none, none, none], μ⟩ = some (.ok .nx, ⟨[o0, o1, some (.cell k), some (webD false a ts), o4, o5, some (webD false a ps), o7, p8, p9, p10, o11, o12, o13, o14, none, none, none], μ'⟩) ∧ Gen (n + 20000) k μ' := by
  obtain ⟨b, us, μ1, e1, g1, w2, h2⟩ := law_web_ok (b := 5) (q := 2) g (by omega) (by omega) (by omega) (by omega) (by omega)
  have s1 := webS_share false a ps
  have s2 := webS_share true b us
  have s3 := webS_share false b us
  have hi : itS (dspL (argsC (gS 6) (argsC (DL.call F__law_web (argsC (gS 2) (argsC (kst (.int 5)) (argsC (kst (.int 2)) args0)))) args0))) ⟨[o0, o1, some (.cell k), some (webD false a ts), o4, o5, some (webD false a ps), o7, o8, o9, o10, o11, o12, o13, o14, none, none, none], μ⟩ = some (.ok (.fix [webD false a ps, webD false b us]), ⟨[o0, o1, some (.cell k), some (webD false a ts), o4, o5, some (webD false a ps), o7, o8, o9, o10, o11, o12, o13, o14, none, none, none], μ1⟩) := by
    generalize webD false a ps = V at *
    generalize webD true b us = W1 at *
    generalize webD false b us = W2 at *
    generalize webD false a ts = W at *
    simp [e1, s1, s2, s3]
  have body : ∀ {n : Nat} {b : Int} {us : List Tie} {o9 o10 : Option D} {μ : Cells}, Gen n k μ → n < 1000000 → Web b us →
      ∃ p9 p10 μ', sq b5a (sq b5b (sq b5c b5d)) ⟨[o0, o1, some (.cell k), some (webD false a ts), o4, o5, some (webD false a ps), o7, some (webD false b us), o9, o10, o11, o12, o13, o14, none, none, none], μ⟩ = some (.ok .nx, ⟨[o0, o1, some (.cell k), some (webD false a ts), o4, o5, some (webD false a ps), o7, some (webD false b us), p9, p10, o11, o12, o13, o14, none, none, none], μ'⟩) ∧ Gen (n + 600) k μ' := fun {n b us o9 o10 μ} g hn w2 => by
    have e1 := b5a_ok (o0 := o0) (o1 := o1) (o2 := some (.cell k)) (o4 := o4) (o5 := o5) (o6 := some (webD false a ps)) (o7 := o7) (o10 := o10) (o11 := o11) (o12 := o12) (o13 := o13) (o14 := o14) (o9 := o9) (b := b) (us := us) (μ := μ) w a5
    have e2 := b5b_ok (o0 := o0) (o1 := o1) (o2 := some (.cell k)) (o3 := some (webD false a ts)) (o4 := o4) (o5 := o5) (o6 := some (webD false a ps)) (o7 := o7) (o8 := some (webD false b us)) (o11 := o11) (o12 := o12) (o13 := o13) (o14 := o14) (o10 := o10) (a := a) (b := b) (ts := ts) (us := us) (μ := μ)
    obtain ⟨X, e3⟩ := b5c_ok (o0 := o0) (o1 := o1) (o2 := some (.cell k)) (o4 := o4) (o5 := o5) (o6 := some (webD false a ps)) (o7 := o7) (o9 := some (.lst true ((ways a b ts us).map rowF))) (o11 := o11) (o12 := o12) (o13 := o13) (o14 := o14) (μ := μ) w a5 w2
    have gX : Gen n k (μ ++ X) := g.keep fun i hi => by rw [List.getElem?_append_left hi]
    obtain ⟨μ2, e4, g4⟩ := b5d_ok (o0 := o0) (o1 := o1) (o4 := o4) (o5 := o5) (o6 := some (webD false a ps)) (o7 := o7) (o9 := some (.lst true ((ways a b ts us).map rowF))) (o11 := o11) (o12 := o12) (o13 := o13) (o14 := o14) gX hn w a5 w2
    exact ⟨_, _, μ2, by rw [sq_run e1, sq_run e2, sq_run e3]; exact e4, g4⟩
  obtain ⟨x9, x10, μ2, f1, g2⟩ := body (o9 := o9) (o10 := o10) g1 (by omega) wp
  obtain ⟨y9, y10, μ3, f2, g3⟩ := body (o9 := x9) (o10 := x10) g2 (by omega) w2
  refine ⟨some (webD false b us), y9, y10, μ3, ?_, g3.mono (by omega)⟩
  rw [T5_is, forS_fix hi]
  have t1 : toN 8 (webD false a ps) (⟨[o0, o1, some (.cell k), some (webD false a ts), o4, o5, some (webD false a ps), o7, o8, o9, o10, o11, o12, o13, o14, none, none, none], μ1⟩ : Sg) = some ⟨[o0, o1, some (.cell k), some (webD false a ts), o4, o5, some (webD false a ps), o7, some (webD false a ps), o9, o10, o11, o12, o13, o14, none, none, none], μ1⟩ := rfl
  have t2 : toN 8 (webD false b us) (⟨[o0, o1, some (.cell k), some (webD false a ts), o4, o5, some (webD false a ps), o7, some (webD false a ps), x9, x10, o11, o12, o13, o14, none, none, none], μ2⟩ : Sg) = some ⟨[o0, o1, some (.cell k), some (webD false a ts), o4, o5, some (webD false a ps), o7, some (webD false b us), x9, x10, o11, o12, o13, o14, none, none, none], μ2⟩ := rfl
  simp only [forL, t1, f1, t2, f2]
  rfl
theorem T6_ok {o0 o1 o4 o5 o6 o7 o8 o9 o10 o13 o14 : Option D} {o11 o12 : Option D} {n k : Nat} {m : Int} {ts : List Tie} {μ : Cells} (g : Gen n k μ) (hn : n < 1000000) (w : Web m ts) :
    ∃ bad μ', T6 ⟨[o0, o1, some (.cell k), some (webD false m ts), o4, o5, o6, o7, o8, o9, o10, o11, o12, o13, o14, none, none, none], μ⟩ = some (.ok .nx, ⟨[o0, o1, some (.cell k), some (webD false m ts), o4, o5, o6, o7, o8, o9, o10, some bad, some (.int m), o13, o14, none, none, none], μ'⟩) ∧ Jud bad false ∧ Arg bad := by
  obtain ⟨bad, μ1, e1, hb, g1⟩ := no_web_ok g w (by omega)
  have hbf : bad.free = true := (D.frees_iff _).mp (oddL_frees m ts) bad hb
  have s1 := shr_free hbf
  have i1 : ∀ ν, ixM (gP 3) (kst (.int 1)) ⟨[o0, o1, some (.cell k), some (webD false m ts), o4, o5, o6, o7, o8, o9, o10, o11, o12, o13, o14, none, none, none], ν⟩ = some (.ok (.val (.int m)), ⟨[o0, o1, some (.cell k), some (webD false m ts), o4, o5, o6, o7, o8, o9, o10, o11, o12, o13, o14, none, none, none], ν⟩) := fun _ => rfl
  have s2 := webS_share false m ts
  refine ⟨bad, μ1, ?_, jud_odd w bad hb, hbf, (tame_odd w bad hb).mono (by omega) (Nat.le_refl 6)⟩
  generalize webD false m ts = W at *
  simp [T6, s2, e1, s1, ↓i1]
def aK7 (i : Int) (o : Bool) (a b : D) (b1 b2 : Bool) (v : D) : D := .tup [.int i, .tup [a, b], .lst o [.bool b1, .bool b2, v]]
def asks0 (W R bad : D) : List D := [aK7 0 false bad (.str "z") true false bad, aK7 1 false bad (.str "z") true false bad, aK7 0 false bad R true false bad, aK7 1 false bad W true false bad, aK7 1 false W bad true false bad]
theorem T7_ok {o0 o1 o2 o5 o6 o7 o8 o9 o10 o12 o14 : Option D} {o13 : Option D} {W R bad : D} {μ : Cells} (hb : bad.free = true) (hw : W.free = true) (hr : R.free = true) :
    T7 ⟨[o0, o1, o2, some W, some R, o5, o6, o7, o8, o9, o10, some bad, o12, o13, o14, none, none, none], μ⟩ = some (.ok .nx, ⟨[o0, o1, o2, some W, some R, o5, o6, o7, o8, o9, o10, some bad, o12, some (.lst true (asks0 W R bad)), o14, none, none, none], μ⟩) := by
  have h1 := shr_free hb
  have h2 := shr_free hw
  have h3 := shr_free hr
  simp [T7, asks0, aK7, h1, h2, h3, comp_ap, compL, wipeE, addD, D.shares, D.share, D.frees, D.free, hb, hw, hr]
def bz (x : Int) : D := if x < 2 then .bool (decide (x = 1)) else .int x
def wrL (m : Int) (o : List Int) : List D := [.none, .tup [], .tup (o.map .int), rowF (o ++ [m]), rowF (cutD o (some 1) none), rowF (List.replicate (m + 1).toNat 0), .dic [] [], .lst false (List.replicate m.toNat .none), .lst false (List.replicate m.toNat (.str "0")), rowF (cutD o none (some (-1)) ++ [m]), .lst false (o.map bz)]
theorem cut_map {α β : Type} (f : α → β) (l : List α) (a b : Option Int) : cutD (l.map f) a b = (cutD l a b).map f := by
  simp [cutD, List.map_drop, List.map_take]
theorem cut_le {α : Type} (l : List α) (a b : Option Int) : (cutD l a b).length ≤ l.length := by
  unfold cutD
  rw [List.length_take, List.length_drop]; omega
theorem mul_rep (o : Bool) (z : D) (k : Int) (k1 : 1 ≤ k) (k7 : k ≤ 7) : mulD (.lst o [z]) (.int k) = some (.lst true (List.replicate k.toNat z)) := by
  rcases case17 k1 k7 with rfl | rfl | rfl | rfl | rfl | rfl | rfl <;> rfl
theorem T8_hi {o0 o1 o2 o3 o5 o6 o7 o8 o9 o10 o11 : Option D} {o13 o14 : Option D} {m : Int} {o : List Int} {μ : Cells} (m1 : 1 ≤ m) (m5 : m ≤ 5) (ho : Ord m o) :
    itS (dspL (argsC (kst .none) (argsC (dspT args0) (argsC (cliC tupleD (argsC (gC 4) args0)) (argsC (binC addD (gC 4) (dspL (argsC (gS 12) args0))) (argsC (slM (gC 4) (DL.o1 (kst (.int 1))) DL.o0) (argsC (binC mulD (dspL (argsC (kst (.int 0)) args0)) (binC addD (gC 12) (kst (.int 1)))) (argsC (kst (.dic [] [])) (argsC (binC mulD (dspL (argsC (kst .none) args0)) (gC 12)) (argsC (binC mulD (dspL (argsC (kst (.str "0")) args0)) (gC 12)) (argsC (binC addD (slM (gC 4) DL.o0 (DL.o1 (unM negD (kst (.int 1))))) (dspL (argsC (gS 12) args0))) (argsC (comp [15] (itS (gS 4)) (toN 15) tst1 (ifV (tst (binI ltD (gP 15) (kst (.int 2)))) (binI eqE (gP 15) (kst (.int 1))) (gS 15))) args0)))))))))))) ⟨[o0, o1, o2, o3, some (rowF o), o5, o6, o7, o8, o9, o10, o11, some (.int m), o13, o14, none, none, none], μ⟩ =
      some (.ok (.fix (wrL m o)), ⟨[o0, o1, o2, o3, some (rowF o), o5, o6, o7, o8, o9, o10, o11, some (.int m), o13, o14, none, none, none], μ⟩) := by
  have hl := (ord_small ho (by omega)).2
  have c1 := cut_le o (some 1) none
  have c2 := cut_le o none (some (-1))
  have x1 : ∀ b b', addD (.lst b (o.map .int)) (.lst b' [.int m]) = some (.lst true ((o ++ [m]).map .int)) := fun b b' => by
    rw [add_ll b b' _ _ (by simp; omega), List.map_append]; rfl
  have x2 : ∀ b b', addD (.lst b ((cutD o none (some (-1))).map .int)) (.lst b' [.int m]) = some (.lst true ((cutD o none (some (-1)) ++ [m]).map .int)) := fun b b' => by
    rw [add_ll b b' _ _ (by simp; omega), List.map_append]; rfl
  have x3 : ∀ b, sliceD (some 1) none (.lst b (o.map .int)) = some (.lst true ((cutD o (some 1) none).map .int)) := fun b => by
    rw [← cut_map]; rfl
  have x4 : ∀ b, sliceD none (some (-1)) (.lst b (o.map .int)) = some (.lst true ((cutD o none (some (-1))).map .int)) := fun b => by
    rw [← cut_map]; rfl
  have x5 : ∀ b, mulD (.lst b [.int 0]) (.int (m + 1)) = some (.lst true ((List.replicate (m + 1).toNat (0 : Int)).map .int)) := fun b => by
    rw [List.map_replicate]; exact mul_rep b _ _ (by omega) (by omega)
  have x6 : ∀ b, mulD (.lst b [.none]) (.int m) = some (.lst true (List.replicate m.toNat .none)) := fun b => mul_rep b _ _ m1 (by omega)
  have x7 : ∀ b, mulD (.lst b [.str "0"]) (.int m) = some (.lst true (List.replicate m.toNat (.str "0"))) := fun b => mul_rep b _ _ m1 (by omega)
  have y0 := shares_ints o
  have y1 := shares_ints (o ++ [m])
  have y2 := shares_ints (cutD o (some 1) none)
  have y3 := shares_ints (cutD o none (some (-1)) ++ [m])
  have y8 := shares_ints (cutD o none (some (-1)))
  have y4 := shares_ints (List.replicate (m + 1).toNat (0 : Int))
  have y5 : D.shares (List.replicate m.toNat .none) = List.replicate m.toNat .none := D.shares_of_frees _ ((D.frees_iff _).mpr fun d hd => by rw [(List.mem_replicate.mp hd).2]; rfl)
  have y6 : D.shares (List.replicate m.toNat (.str "0")) = List.replicate m.toNat (.str "0") := D.shares_of_frees _ ((D.frees_iff _).mpr fun d hd => by rw [(List.mem_replicate.mp hd).2]; rfl)
  have y7 : D.shares (o.map bz) = o.map bz := D.shares_of_frees _ ((D.frees_iff _).mpr fun d hd => by
    obtain ⟨z, _, rfl⟩ := List.mem_map.mp hd
    unfold bz; split <;> rfl)
  have f0 := frees_ints o
  have cc := comp_ints (own := [15]) (src := itS (gS 4)) (f := toN 15) (e := ifV (tst (binI ltD (gP 15) (kst (.int 2)))) (binI eqE (gP 15) (kst (.int 1))) (gS 15)) (s := ⟨[o0, o1, o2, o3, some (rowF o), o5, o6, o7, o8, o9, o10, o11, some (.int m), o13, o14, none, none, none], μ⟩) (s' := ⟨[o0, o1, o2, o3, some (rowF o), o5, o6, o7, o8, o9, o10, o11, some (.int m), o13, o14, none, none, none], μ⟩) (l := o) bz (by
      unfold rowF
      generalize o.map D.int = od at *
      simp [y0]) (by omega) rfl (by
    intro z hz
    refine ⟨_, ⟨[o0, o1, o2, o3, some (rowF o), o5, o6, o7, o8, o9, o10, o11, some (.int m), o13, o14, some (.int z), none, none], μ⟩, rfl, ?_, rfl⟩
    unfold bz
    generalize rowF o = RO
    by_cases c : z < 2
    · have c' : decide (z < 2) = true := decide_eq_true c
      by_cases c3 : z = 1
      · subst c3; simp
      · simp [c, c', c3]
    · have c' : decide (z < 2) = false := decide_eq_false c
      simp [c, c'])
  unfold wrL
  unfold rowF at *
  generalize (o ++ [m]).map D.int = A1 at *
  generalize (cutD o (some 1) none).map D.int = A2 at *
  generalize (cutD o none (some (-1)) ++ [m]).map D.int = A3 at *
  generalize (cutD o none (some (-1))).map D.int = A3' at *
  generalize (List.replicate (m + 1).toNat (0 : Int)).map D.int = A4 at *
  generalize List.replicate m.toNat D.none = A5 at *
  generalize List.replicate m.toNat (D.str "0") = A6 at *
  generalize o.map bz = A7 at *
  generalize o.map D.int = od at *
  simp [↓cc, x1, x2, x3, x4, x5, x6, x7, y0, y1, y2, y3, y4, y5, y6, y7, y8, f0, tupleD, negi1']
def apB : M Fl := (drp (mtM appO 13 (argsC (dspT (argsC (kst (.int 0)) (argsC (dspT (argsC (gS 3) (argsC (gS 14) args0))) (argsC (dspL (argsC (kst (.bool false)) (argsC (kst (.bool true)) (argsC (gS 14) args0)))) args0)))) args0)))
theorem ap_loop {o0 o1 o2 o4 o5 o6 o7 o8 o9 o10 o11 o12 : Option D} {W : D} {μ : Cells} (hw : W.share = W) : ∀ (L : List D) (A : List D) (o14 : Option D), D.frees L = true → L.length + A.length ≤ 1000 →
    ∃ p14, forL (toN 14) apB L ⟨[o0, o1, o2, some W, o4, o5, o6, o7, o8, o9, o10, o11, o12, some (.lst true A), o14, none, none, none], μ⟩ = some (.ok .nx, ⟨[o0, o1, o2, some W, o4, o5, o6, o7, o8, o9, o10, o11, o12, some (.lst true (A ++ L.map fun x => aK7 0 true W x false true x)), p14, none, none, none], μ⟩)
  | [], A, o14, _, _ => ⟨o14, by simp [forL, DL.ret]⟩
  | x :: L, A, o14, hf, hl => by
    have hx := shr_free ((D.frees_iff _).mp hf x (by simp))
    have hf2 : D.frees L = true := (D.frees_iff _).mpr fun d hd => (D.frees_iff _).mp hf d (by simp [hd])
    obtain ⟨p14, e⟩ := ap_loop (o0 := o0) (o1 := o1) (o2 := o2) (o4 := o4) (o5 := o5) (o6 := o6) (o7 := o7) (o8 := o8) (o9 := o9) (o10 := o10) (o11 := o11) (o12 := o12) (μ := μ) hw L (A ++ [aK7 0 true W x false true x]) (some x) hf2 (by simp at hl ⊢; omega)
    refine ⟨p14, ?_⟩
    have hA : A.length < 16777216 := by omega
    have h1 : toN 14 x (⟨[o0, o1, o2, some W, o4, o5, o6, o7, o8, o9, o10, o11, o12, some (.lst true A), o14, none, none, none], μ⟩ : Sg) = some ⟨[o0, o1, o2, some W, o4, o5, o6, o7, o8, o9, o10, o11, o12, some (.lst true A), some x, none, none, none], μ⟩ := rfl
    have h2 : apB ⟨[o0, o1, o2, some W, o4, o5, o6, o7, o8, o9, o10, o11, o12, some (.lst true A), some x, none, none, none], μ⟩ = some (.ok .nx, ⟨[o0, o1, o2, some W, o4, o5, o6, o7, o8, o9, o10, o11, o12, some (.lst true (A ++ [aK7 0 true W x false true x])), some x, none, none, none], μ⟩) := by
      simp [apB, mtM, appO, aK7, hw, hx, hA]
    simp only [forL, h1, h2, e, List.map_cons, List.append_assoc, List.singleton_append]
theorem wr_item {m : Int} {o : List Int} (m1 : 1 ≤ m) (m5 : m ≤ 5) (ho : Ord m o) : ∀ v ∈ wrL m o, Arg v ∧ ∀ μ, F_is_order_by [.int m, v] μ = some (.ok (.bool false), μ) := by
  have sm := ord_small ho (by omega)
  have hl := ho.ln
  have c1 := cut_le o (some 1) none
  have c2 := cut_le o none (some (-1))
  have c3 : (cutD o (some 1) none).length = o.length - 1 := by
    have := cut1_len (r := o.map .int) (by rw [List.length_map]; omega)
    rw [cut_map, List.length_map, List.length_map] at this; exact this
  have cm : ∀ a b, ∀ x ∈ cutD o a b, x ∈ o := fun a b x hx => List.mem_of_mem_drop (List.mem_of_mem_take hx)
  have intL : ∀ l : List Int, l.length ≤ 10 → (∀ x ∈ l, -999999999999 ≤ x ∧ x ≤ 999999999999) → Arg (rowF l) := fun l h1 h2 =>
    ⟨frees_ints l, (tame_rowx false h2 h1).mono (by omega) (by omega)⟩
  have lstL : ∀ l : List D, l.length ≤ 10 → (∀ d ∈ l, d.free = true ∧ Tame 10000 5 d) → Arg (.lst false l) := fun l h1 h2 =>
    ⟨(D.frees_iff _).mpr fun d hd => (h2 d hd).1, (Tame.lst (k := 10000) (j := 5) (fun d hd => (h2 d hd).2) 10 h1).mono (by omega) (by omega)⟩
  have reps : ∀ d : D, d.free = true → Tame 10000 5 d → (∀ c, d ≠ .cell c) → d.tyn.isSome = true → wh d = false → Arg (.lst false (List.replicate m.toNat d)) ∧ ∀ μ, F_is_order_by [.int m, .lst false (List.replicate m.toNat d)] μ = some (.ok (.bool false), μ) := fun d h1 h2 h3 h4 h5 =>
    ⟨lstL _ (by rw [List.length_replicate]; omega) fun e he => by rw [(List.mem_replicate.mp he).2]; exact ⟨h1, h2⟩,
     fun μ => iso_no (fun e he => by rw [(List.mem_replicate.mp he).2]; exact ⟨h3, h1, h4⟩) (by rw [List.length_replicate]; omega) (by
      rw [← Bool.not_eq_true, List.all_eq_true]
      intro h
      have := h d (List.mem_replicate.mpr ⟨by omega, rfl⟩)
      rw [h5] at this; cases this)⟩
  intro v hv
  simp only [wrL, List.mem_cons, List.not_mem_nil, or_false] at hv
  rcases hv with rfl | rfl | rfl | rfl | rfl | rfl | rfl | rfl | rfl | rfl | rfl
  · exact ⟨⟨rfl, (Tame.none (j := 6)).mono (by omega) (Nat.le_refl 6)⟩, fun μ => iso_c (.inl rfl)⟩
  · exact ⟨⟨rfl, (tameB_ok (by decide +kernel)).mono (by omega) (Nat.le_refl 6)⟩, fun μ => iso_c (.inr (.inl ⟨_, rfl⟩))⟩
  · exact ⟨⟨frees_ints o, (Tame.tup (k := 0) (j := 0) (fun d hd => by obtain ⟨z, hz, rfl⟩ := List.mem_map.mp hd; exact Tame.int (sm.1 z hz).1 (sm.1 z hz).2) 10 (by rw [List.length_map]; omega)).mono (by omega) (by omega)⟩, fun μ => iso_c (.inr (.inl ⟨_, rfl⟩))⟩
  · exact ⟨intL _ (by simp; omega) (fun x hx => by rcases List.mem_append.mp hx with hx | hx; exact sm.1 x hx; simp at hx; omega), fun μ => iso_nol ⟨by omega, by omega⟩ (by simp; omega) (.inl (by simp; omega))⟩
  · exact ⟨intL _ (by omega) (fun x hx => sm.1 x (cm _ _ x hx)), fun μ => iso_nol ⟨by omega, by omega⟩ (by omega) (.inl (by omega))⟩
  · exact ⟨intL _ (by simp; omega) (fun x hx => by rw [(List.mem_replicate.mp hx).2]; omega), fun μ => iso_nol ⟨by omega, by omega⟩ (by simp; omega) (.inl (by simp; omega))⟩
  · exact ⟨⟨rfl, (tameB_ok (by decide +kernel)).mono (by omega) (Nat.le_refl 6)⟩, fun μ => iso_c (.inr (.inr rfl))⟩
  · exact reps .none rfl ((Tame.none (j := 5)).mono (by omega) (Nat.le_refl 5)) (fun c h => by cases h) rfl rfl
  · exact reps (.str "0") rfl ((tame_str (by decide +kernel)).mono (by omega) (by omega)) (fun c h => by cases h) rfl rfl
  · exact ⟨intL _ (by simp; omega) (fun x hx => by rcases List.mem_append.mp hx with hx | hx; exact sm.1 x (cm _ _ x hx); simp at hx; omega), fun μ => iso_nol ⟨by omega, by omega⟩ (by simp; omega) (.inr ⟨m, by simp, by omega⟩)⟩
  · have hb : ∀ d ∈ o.map bz, (∀ c, d ≠ .cell c) ∧ d.free = true ∧ d.tyn.isSome = true ∧ Tame 10000 5 d := fun d hd => by
      obtain ⟨z, hz, rfl⟩ := List.mem_map.mp hd
      have := sm.1 z hz
      unfold bz
      split
      · exact ⟨fun c h => (by cases h), rfl, rfl, (Tame.bool _).mono (by omega) (Nat.le_refl 5)⟩
      · exact ⟨fun c h => (by cases h), rfl, rfl, (Tame.int this.1 this.2).mono (by omega) (Nat.le_refl 5)⟩
    refine ⟨lstL _ (by rw [List.length_map]; omega) fun d hd => ⟨(hb d hd).2.1, (hb d hd).2.2.2⟩, fun μ => iso_no (fun d hd => ⟨(hb d hd).1, (hb d hd).2.1, (hb d hd).2.2.1⟩) (by rw [List.length_map]; omega) ?_⟩
    rw [← Bool.not_eq_true, List.all_eq_true]
    intro h
    have := h (bz 0) (List.mem_map.mpr ⟨0, ho.hi 0 (by omega) (by omega), rfl⟩)
    exact absurd this (by decide +kernel)
theorem T8_ok {o0 o1 o2 o5 o6 o7 o8 o9 o10 o11 : Option D} {o14 : Option D} {m : Int} {o : List Int} {W : D} {A : List D} {μ : Cells} (m1 : 1 ≤ m) (m5 : m ≤ 5) (ho : Ord m o) (hw : W.share = W) (hA : A.length ≤ 100) :
    ∃ p14, T8 ⟨[o0, o1, o2, some W, some (rowF o), o5, o6, o7, o8, o9, o10, o11, some (.int m), some (.lst true A), o14, none, none, none], μ⟩ = some (.ok .nx, ⟨[o0, o1, o2, some W, some (rowF o), o5, o6, o7, o8, o9, o10, o11, some (.int m), some (.lst true (A ++ (wrL m o).map fun x => aK7 0 true W x false true x)), p14, none, none, none], μ⟩) := by
  have hi := T8_hi (o0 := o0) (o1 := o1) (o2 := o2) (o3 := some W) (o5 := o5) (o6 := o6) (o7 := o7) (o8 := o8) (o9 := o9) (o10 := o10) (o11 := o11) (o13 := some (.lst true A)) (o14 := o14) (μ := μ) m1 m5 ho
  have hf : D.frees (wrL m o) = true := (D.frees_iff _).mpr fun d hd => (wr_item m1 m5 ho d hd).1.fr
  obtain ⟨p14, e⟩ := ap_loop (o0 := o0) (o1 := o1) (o2 := o2) (o4 := some (rowF o)) (o5 := o5) (o6 := o6) (o7 := o7) (o8 := o8) (o9 := o9) (o10 := o10) (o11 := o11) (o12 := some (.int m)) (μ := μ) hw (wrL m o) A o14 hf (by simp [wrL]; omega)
  exact ⟨p14, (forS_fix (f := toN 14) (b := apB) hi).trans e⟩
def d7 : Nat → Fn
  | 0 => F_renamed_web
  | _ => F_renaming
theorem caught7 {i : Nat} {a b : D} {c : Str} {v : D} {μ : Cells} {b1 b2 : Bool} (hi : i < 2) (ha : d7 i [a, b] μ = some (.err c v, μ)) (hs : ∀ x ∈ [a, b], Arg x) (hf : v.free = true) (td : Tame 900000 50 (.lst false [.bool b1, .bool b2, v]))
    (hc : ∃ x, ET.lookup c = some x) (h1 : isaX ET [.exc c v, .fn "InvalidWeb"] = some (.bool b1)) (h2 : isaX ET [.exc c v, .fn "InvalidList"] = some (.bool b2)) :
    F__law_caught [.int (i : Int), .tup [a, b]] μ = some (.ok (.str (D.lst false [.bool b1, .bool b2, v]).py.shown), μ) := by
  obtain ⟨x, hx⟩ := hc
  have hv := shr_free hf
  have fa := (hs a (by simp)).fr
  have fb := (hs b (by simp)).fr
  have i1 : isD (.exc c v) .none = some (.bool false) := rfl
  have r1 := (tame_argsL hs (by simp)).rep (by omega) (by omega)
  have r2 : reprD [.lst true [.bool b1, .bool b2, v]] = some (.str (D.lst false [.bool b1, .bool b2, v]).py.shown) := td.rep (by omega) (by omega)
  have hadd := add_ll true false [.bool b1, .bool b2] [v] (by simp)
  have hadd2 := add_ll false false [.bool b1, .bool b2] [v] (by simp)
  simp only [List.cons_append, List.nil_append] at hadd hadd2
  have k1 : (Str.ofString "renaming" == Str.ofString "renamed_web") = false := by decide +kernel
  generalize (D.lst false [.bool b1, .bool b2, v]).py.shown = K at *
  generalize (D.tup [a, b]).py.shown = A at *
  have as' := shr_free fa
  have bs' := shr_free fb
  have hc3 : i = 0 ∨ i = 1 := by omega
  rcases hc3 with rfl | rfl <;> simp only [d7] at ha <;>
    simp [F__law_caught, m__law_caught, r1, tryK, callV, bnd, List.lookup, k1, fa, fb, as', bs', ha, hx, i1, h1, h2, valE, hv, hadd, hadd2, r2]
theorem tame_due2 {b1 b2 : Bool} {v : D} (t : Tame 136000 6 v) : Tame 900000 50 (.lst false [.bool b1, .bool b2, v]) := tame_dueL (bs := [b1, b2]) t (by simp)
theorem ask7 {i : Nat} {a b : D} {c : Str} {v : D} {μ : Cells} {b1 b2 : Bool} (hi : i < 2) (ha : d7 i [a, b] μ = some (.err c v, μ)) (x1 : Arg a) (x2 : Arg b) (hv : Arg v)
    (hc : ∃ x, ET.lookup c = some x) (h1 : isaX ET [.exc c v, .fn "InvalidWeb"] = some (.bool b1)) (h2 : isaX ET [.exc c v, .fn "InvalidList"] = some (.bool b2)) : AskOk μ (aK7 (i : Int) false a b b1 b2 v) :=
  ⟨_, _, _, _, rfl, frees_args (args2 x1 x2), frees_due (bs := [b1, b2]) hv.fr, caught7 hi ha (args2 x1 x2) hv.fr (tame_due2 hv.tm) hc h1 h2, (tame_due2 hv.tm).rep (by omega) (by omega)⟩
theorem asks_none2 {μ : Cells} {A B : List D} {ja jc : Nat} {ρ : DL.Env} {o : Bool} (hAB : D.shares B = A) (hA : ∀ d ∈ A, AskOk μ d) (hl : A.length ≤ 1000) (ha : ρ[ja]? = some (some (.lst o B))) (hc : ρ[jc]? = some none) (hne : ja ≠ jc) :
    comp [jc] (itS (gS ja)) (toN jc) (tst (binI neE (DL.call F__law_caught (argsC (ixM (gP jc) (kst (.int 0))) (argsC (ixM (gP jc) (kst (.int 1))) args0))) (cliI reprD (argsC (ixM (gP jc) (kst (.int 2))) args0)))) (gS jc) ⟨ρ, μ⟩ = some (.ok (.val (.lst true [])), ⟨ρ.set ja (some (.lst false A)), μ⟩) := by
  have hfr : D.frees A = true := (D.frees_iff _).mpr fun d hd => askok_free (hA d hd)
  have hsh : D.shares A = A := D.shares_of_frees _ hfr
  have hlt : jc < ρ.length := (List.getElem?_eq_some_iff.mp hc).1
  have hi : itS (gS ja) ⟨ρ, μ⟩ = some (.ok (.fix A), ⟨ρ.set ja (some (.lst false A)), μ⟩) := by simp [ha, hAB, hsh]
  have hc' : (ρ.set ja (some (D.lst false A)))[jc]? = some none := by rw [List.getElem?_set_ne hne]; exact hc
  have hw : ∀ x, ((ρ.set ja (some (D.lst false A))).set jc x).set jc none = ρ.set ja (some (.lst false A)) := fun x => by
    rw [List.set_set]; exact set_same hc'
  have e := comp_filw (own := [jc]) (f := toN jc) (t := tst (binI neE (DL.call F__law_caught (argsC (ixM (gP jc) (kst (.int 0))) (argsC (ixM (gP jc) (kst (.int 1))) args0))) (cliI reprD (argsC (ixM (gP jc) (kst (.int 2))) args0)))) (e := gS jc) (s' := ⟨ρ.set ja (some (.lst false A)), μ⟩) (fun _ => none) hi (by simp only [wipeE]; rw [set_same hc']) (by omega) (by simp only [wipeE]; rw [set_same hc']) (by
    intro d hd
    obtain ⟨i, as, due, x, rfl, h1, h2, h3, h4⟩ := hA d hd
    have hg : ((ρ.set ja (some (D.lst false A))).set jc (some (.tup [.int i, .tup as, .lst false due])))[jc]? = some (some (.tup [.int i, .tup as, .lst false due])) := List.getElem?_set_self (by rw [List.length_set]; exact hlt)
    refine ⟨⟨(ρ.set ja (some (.lst false A))).set jc (some (.tup [.int i, .tup as, .lst false due])), μ⟩, false, ⟨(ρ.set ja (some (.lst false A))).set jc (some (.tup [.int i, .tup as, .lst false due])), μ⟩, by simp [hlt], ?_, .inl ⟨rfl, rfl, by simp only [wipeE]; rw [hw]⟩⟩
    simp only [s_tst_ap, s_binI_ap, s_bnd_ap, s_call_ap, s_argsC_ap, s_ixM_ap, s_gP_ap, s_kst_ap, s_args0_ap, s_cliI_ap, s_ret_ap, hg]
    simp [hg, h1, h2, h3, h4])
  have hfm : A.filterMap (fun _ => (none : Option D)) = [] := by
    clear hA hl hfr hsh hi e ha hc' hw hAB
    induction A with
    | nil => rfl
    | cons a l ih => simpa using ih
  rw [hfm] at e
  exact e
theorem T9_ok {o0 o1 o2 o4 o6 o7 o8 o9 o10 o11 o12 o14 : Option D} {a : Int} {ts : List Tie} {A B : List D} {μ : Cells} (w : Web a ts) (hAB : D.shares B = A) (hA : ∀ d ∈ A, AskOk μ d) (hl : A.length ≤ 100) :
    T9 ⟨[o0, o1, o2, some (webD false a ts), o4, some (.str (webD false a ts).py.shown), o6, o7, o8, o9, o10, o11, o12, some (.lst true B), o14, none, none, none], μ⟩ = some (.ok .nx, ⟨[o0, o1, o2, some (webD false a ts), o4, some (.str (webD false a ts).py.shown), o6, o7, o8, o9, o10, o11, o12, some (.lst false A), o14, none, none, none], μ⟩) := by
  have e : comp [17] (itS (gS 13)) (toN 17) (tst (binI neE (DL.call F__law_caught (argsC (ixM (gP 17) (kst (.int 0))) (argsC (ixM (gP 17) (kst (.int 1))) args0))) (cliI reprD (argsC (ixM (gP 17) (kst (.int 2))) args0)))) (gS 17) ⟨[o0, o1, o2, some (webD false a ts), o4, some (.str (webD false a ts).py.shown), o6, o7, o8, o9, o10, o11, o12, some (.lst true B), o14, none, none, none], μ⟩ =
      some (.ok (.val (.lst true [])), ⟨[o0, o1, o2, some (webD false a ts), o4, some (.str (webD false a ts).py.shown), o6, o7, o8, o9, o10, o11, o12, some (.lst false A), o14, none, none, none], μ⟩) := asks_none2 hAB hA (by omega) rfl rfl (by decide)
  have i2 : cliI reprD (argsC (gP 3) args0) ⟨[o0, o1, o2, some (webD false a ts), o4, some (.str (webD false a ts).py.shown), o6, o7, o8, o9, o10, o11, o12, some (.lst false A), o14, none, none, none], μ⟩ = some (.ok (.val (.str (webD false a ts).py.shown)), ⟨[o0, o1, o2, some (webD false a ts), o4, some (.str (webD false a ts).py.shown), o6, o7, o8, o9, o10, o11, o12, some (.lst false A), o14, none, none, none], μ⟩) := repr_pk (v := webD false a ts) (k := 10000) (j := 3) rfl (tame_web w false) (by omega) (by omega)
  have hnn := neE_nil true true []
  generalize (webD false a ts).py.shown = K at *
  generalize webD false a ts = W1 at *
  simp [T9, ↓e, ↓i2, hnn]
theorem asks_all {a : Int} {ts : List Tie} {o : List Int} {bad : D} {μ : Cells} (w : Web a ts) (a5 : a ≤ 5) (ho : Ord a o) (jb : Jud bad false) (ab : Arg bad) :
    D.shares (asks0 (webD false a ts) (rowF o) bad ++ (wrL a o).map fun x => aK7 0 true (webD false a ts) x false true x) = asks0 (webD false a ts) (rowF o) bad ++ ((wrL a o).map fun x => aK7 0 false (webD false a ts) x false true x) ∧
    (∀ d ∈ asks0 (webD false a ts) (rowF o) bad ++ ((wrL a o).map fun x => aK7 0 false (webD false a ts) x false true x), AskOk μ d) ∧ (asks0 (webD false a ts) (rowF o) bad ++ ((wrL a o).map fun x => aK7 0 false (webD false a ts) x false true x)).length ≤ 100 := by
  have aw := arg_web w
  have sm := ord_small ho w.m2
  have ar : Arg (rowF o) := ⟨frees_ints o, (tame_rowx false sm.1 (by omega)).mono (by omega) (by omega)⟩
  have az : Arg (.str "z") := arg_str "z" (by decide +kernel)
  have hwr := wr_item w.m1 a5 ho
  have h0 : ∀ d ∈ asks0 (webD false a ts) (rowF o) bad, AskOk μ d := fun d hd => by
    simp only [asks0, List.mem_cons, List.not_mem_nil, or_false] at hd
    rcases hd with rfl | rfl | rfl | rfl | rfl
    · exact ask7 (i := 0) (by omega) (rweb_w ab.fr jb) ab az ab ⟨_, rfl⟩ rfl rfl
    · exact ask7 (i := 1) (by omega) (rnm_w1 ab.fr jb) ab az ab ⟨_, rfl⟩ rfl rfl
    · exact ask7 (i := 0) (by omega) (rweb_w ab.fr jb) ab ar ab ⟨_, rfl⟩ rfl rfl
    · exact ask7 (i := 1) (by omega) (rnm_w1 ab.fr jb) ab aw ab ⟨_, rfl⟩ rfl rfl
    · exact ask7 (i := 1) (by omega) (rnm_w2 w ab.fr jb) aw ab ab ⟨_, rfl⟩ rfl rfl
  have h1 : ∀ d ∈ (wrL a o).map fun x => aK7 0 false (webD false a ts) x false true x, AskOk μ d := fun d hd => by
    obtain ⟨x, hx, rfl⟩ := List.mem_map.mp hd
    have hw := hwr x hx
    exact ask7 (i := 0) (by omega) (rweb_l w hw.1.fr (hw.2 μ)) aw hw.1 hw.1 ⟨_, rfl⟩ rfl rfl
  refine ⟨?_, fun d hd => (List.mem_append.mp hd).elim (h0 d) (h1 d), by simp [asks0, wrL]⟩
  have s0 : D.shares (asks0 (webD false a ts) (rowF o) bad) = asks0 (webD false a ts) (rowF o) bad := D.shares_of_frees _ ((D.frees_iff _).mpr fun d hd => askok_free (h0 d hd))
  have s1 : ((wrL a o).map fun x => aK7 0 true (webD false a ts) x false true x).map D.share = (wrL a o).map fun x => aK7 0 false (webD false a ts) x false true x := by
    rw [List.map_map]
    refine List.map_congr_left fun x hx => ?_
    have hs := shr_free (hwr x hx).1.fr
    have hw := webS_share false a ts
    show (aK7 0 true (webD false a ts) x false true x).share = _
    generalize webD false a ts = W at *
    simp [aK7, hs, hw]
  rw [D.shares_map] at s0 ⊢
  rw [List.map_append, s0, s1]
theorem turn_ok {o2 o3 o4 o5 o6 o7 o8 o9 o10 o11 o12 o13 o14 : Option D} {ns : List Int} {i : Nat} {μ : Cells} (h0 : i ≤ 3) :
    ∃ (p2 p3 p4 p5 p6 p7 p8 p9 p10 p11 p12 p13 p14 : Option D) (μ' : Cells), turnB ⟨[some (.frz (ns.map .int)), some (.int (i : Int)), o2, o3, o4, o5, o6, o7, o8, o9, o10, o11, o12, o13, o14, none, none, none], μ⟩ = some (.ok .nx, ⟨[some (.frz (ns.map .int)), some (.int (i : Int)), p2, p3, p4, p5, p6, p7, p8, p9, p10, p11, p12, p13, p14, none, none, none], μ'⟩) := by
  obtain ⟨k, μ0, e0, g0⟩ := T0_ok (o3 := o3) (o4 := o4) (o5 := o5) (o6 := o6) (o7 := o7) (o8 := o8) (o9 := o9) (o10 := o10) (o11 := o11) (o12 := o12) (o13 := o13) (o14 := o14) (o2 := o2) (ns := ns) (i := i) (μ := μ) h0
  obtain ⟨a, ts, μ1, e1, g1, w, a5⟩ := T1_ok (o0 := some (.frz (ns.map .int))) (o1 := some (.int (i : Int))) (o4 := o4) (o5 := o5) (o6 := o6) (o7 := o7) (o8 := o8) (o9 := o9) (o10 := o10) (o11 := o11) (o12 := o12) (o13 := o13) (o14 := o14) (o3 := o3) g0 (by omega)
  obtain ⟨o, μ2, e2, g2, hp⟩ := T2_ok (o0 := some (.frz (ns.map .int))) (o1 := some (.int (i : Int))) (o6 := o6) (o7 := o7) (o8 := o8) (o9 := o9) (o10 := o10) (o11 := o11) (o12 := o12) (o13 := o13) (o14 := o14) (o4 := o4) (o5 := o5) g1 (by omega) w
  have e3 := T3_ok (o0 := some (.frz (ns.map .int))) (o1 := some (.int (i : Int))) (o2 := some (.cell k)) (o5 := some (.str (webD false a ts).py.shown)) (o8 := o8) (o9 := o9) (o10 := o10) (o11 := o11) (o12 := o12) (o13 := o13) (o14 := o14) (o6 := o6) (o7 := o7) (μ := μ2) w hp
  have ho := ord_perm (by have := w.m1; omega) hp
  have g3 : Gen (3000 + 10000 + 1000) k (μ2 ++ [(made (renT ts o)).map tieD]) := g2.keep fun i hi => by rw [List.getElem?_append_left hi]
  have hc : (μ2 ++ [(made (renT ts o)).map tieD])[μ2.length]? = some ((made (renT ts o)).map tieD) := by simp
  have hkc : μ2.length ≠ k := by have := g2.lt; omega
  obtain ⟨μ4, e4, g4⟩ := T4_ok (o0 := some (.frz (ns.map .int))) (o1 := some (.int (i : Int))) (o5 := some (.str (webD false a ts).py.shown)) (o8 := o8) (o9 := o9) (o10 := o10) (o11 := o11) (o12 := o12) (o13 := o13) (o14 := o14) g3 (by omega) w hp hc hkc
  obtain ⟨p8, p9, p10, μ5, e5, g5⟩ := T5_ok (o0 := some (.frz (ns.map .int))) (o1 := some (.int (i : Int))) (o4 := some (rowF o)) (o5 := some (.str (webD false a ts).py.shown)) (o7 := some (webC a μ2.length)) (o11 := o11) (o12 := o12) (o13 := o13) (o14 := o14) (o8 := o8) (o9 := o9) (o10 := o10) g4 (by omega) w a5 (ren_web w ho)
  obtain ⟨bad, μ6, e6, jb, ab⟩ := T6_ok (o0 := some (.frz (ns.map .int))) (o1 := some (.int (i : Int))) (o4 := some (rowF o)) (o5 := some (.str (webD false a ts).py.shown)) (o6 := some (webD false a (made (renT ts o)))) (o7 := some (webC a μ2.length)) (o8 := p8) (o9 := p9) (o10 := p10) (o13 := o13) (o14 := o14) (o11 := o11) (o12 := o12) g5 (by omega) w
  have e7 := T7_ok (o0 := some (.frz (ns.map .int))) (o1 := some (.int (i : Int))) (o2 := some (.cell k)) (o5 := some (.str (webD false a ts).py.shown)) (o6 := some (webD false a (made (renT ts o)))) (o7 := some (webC a μ2.length)) (o8 := p8) (o9 := p9) (o10 := p10) (o12 := some (.int a)) (o14 := o14) (o13 := o13) (R := rowF o) (μ := μ6) ab.fr (arg_web w).fr (frees_ints o)
  obtain ⟨p14, e8⟩ := T8_ok (o0 := some (.frz (ns.map .int))) (o1 := some (.int (i : Int))) (o2 := some (.cell k)) (o5 := some (.str (webD false a ts).py.shown)) (o6 := some (webD false a (made (renT ts o)))) (o7 := some (webC a μ2.length)) (o8 := p8) (o9 := p9) (o10 := p10) (o11 := some bad) (o14 := o14) (A := asks0 (webD false a ts) (rowF o) bad) (μ := μ6) w.m1 a5 ho (webS_share false a ts) (by simp [asks0])
  have hall := asks_all (μ := μ6) w a5 ho jb ab
  have e9 := T9_ok (o0 := some (.frz (ns.map .int))) (o1 := some (.int (i : Int))) (o2 := some (.cell k)) (o4 := some (rowF o)) (o6 := some (webD false a (made (renT ts o)))) (o7 := some (webC a μ2.length)) (o8 := p8) (o9 := p9) (o10 := p10) (o11 := some bad) (o12 := some (.int a)) (o14 := p14) (A := (asks0 (webD false a ts) (rowF o) bad ++ ((wrL a o).map fun x => aK7 0 false (webD false a ts) x false true x))) (μ := μ6) w hall.1 hall.2.1 hall.2.2
  have e := (sq_run e0).trans ((sq_run e1).trans ((sq_run e2).trans ((sq_run e3).trans ((sq_run e4).trans ((sq_run e5).trans ((sq_run e6).trans ((sq_run e7).trans ((sq_run e8).trans (e9)))))))))
  exact ⟨_, _, _, _, _, _, _, _, _, _, _, _, _, _, e⟩
theorem plain : ∀ ns : List Int, ns.length ≤ 63 → (∀ z ∈ ns, Builtin.Int.intBits z ≤ 1048576) → ∃ μ, F_law [.frz (ns.map .int)] [] = some (.ok (.bool true), μ) := by
  intro ns _ _
  have hi : it1 (argsC (kst (.int 3)) args0) ⟨[some (.frz (ns.map .int)), none, none, none, none, none, none, none, none, none, none, none, none, none, none, none, none, none], []⟩ = some (.ok (.fix (rng 0 3)), ⟨[some (.frz (ns.map .int)), none, none, none, none, none, none, none, none, none, none, none, none, none, none, none, none, none], []⟩) :=
    it1_of (l := [.val (.int 3)]) (j := 3) (by simp) rfl ⟨by omega, by omega⟩
  obtain ⟨s', h1, o1, o2, o3, o4, o5, o6, o7, o8, o9, o10, o11, o12, o13, o14, μ', rfl⟩ := forL_run (f := toN 1) (b := turnB)
    (fun i s => ∃ (o1 o2 o3 o4 o5 o6 o7 o8 o9 o10 o11 o12 o13 o14 : Option D) (μ' : Cells), s = ⟨[some (.frz (ns.map .int)), o1, o2, o3, o4, o5, o6, o7, o8, o9, o10, o11, o12, o13, o14, none, none, none], μ'⟩)
    (ds := rng 0 3) (k := 0) (s := ⟨[some (.frz (ns.map .int)), none, none, none, none, none, none, none, none, none, none, none, none, none, none, none, none, none], []⟩)
    ⟨none, none, none, none, none, none, none, none, none, none, none, none, none, none, [], rfl⟩ (by
      rintro i d s hd ⟨o1, o2, o3, o4, o5, o6, o7, o8, o9, o10, o11, o12, o13, o14, μ', rfl⟩
      obtain ⟨hi, rfl⟩ := rng_get hd
      obtain ⟨p2, p3, p4, p5, p6, p7, p8, p9, p10, p11, p12, p13, p14, μ2, e⟩ := turn_ok (ns := ns) (i := i) (o2 := o2) (o3 := o3) (o4 := o4) (o5 := o5) (o6 := o6) (o7 := o7) (o8 := o8) (o9 := o9) (o10 := o10) (o11 := o11) (o12 := o12) (o13 := o13) (o14 := o14) (μ := μ') (by omega)
      rw [Int.zero_add]
      exact ⟨_, _, rfl, .inl e, _, _, _, _, _, _, _, _, _, _, _, _, _, _, _, rfl⟩)
  have h3 := (forS_fix (f := toN 1) (b := turnB) hi).trans h1
  have h4 : startE 18 [D.frz (ns.map .int)] = [some (.frz (ns.map .int)), none, none, none, none, none, none, none, none, none, none, none, none, none, none, none, none, none] := rfl
  refine ⟨μ', ?_⟩
  show runB 18 (sq (forS (it1 (argsC (kst (.int 3)) args0)) (toN 1) turnB) (rtn (kst (.bool true)))) [.frz (ns.map .int)] [] = _
  rw [runB, h4, sq_run h3]
  rfl
end Lk07
open PySem PySem.W PyProof.Rows
set_option maxRecDepth 100000 in
set_option maxHeartbeats 0 in
theorem PySem.Challenge.cw_debtscleared_k07_whole_webs_renamed_holds : PySem.Challenge.rw_debtscleared_k07_whole_webs_renamed.Holds := by
  w_on; o_law; k_head; (case hw => w_witness2)
  k_fill
  refine DL.walkD (l := PySem.Challenge.rw_debtscleared_k07_whole_webs_renamed) (k := 14) (x := "script") (F := Lk07.F_law) rfl (by decide) rfl ⟨rfl, by decide, by decide⟩ (fun w h Y => PySem.W.kIn_of Y) ?G Lk07.plain
  case G =>
    intro w mg fa h KX Gm hmg
    refine' Lk07.all_end KX Gm hmg ?dl_a0 ?dl_l0 ?dl_c0 ?dl_k0 ?dl_a1 ?dl_l1 ?dl_c1 ?dl_k1 ?dl_a2 ?dl_l2 ?dl_c2 ?dl_k2 ?dl_a3 ?dl_l3 ?dl_c3 ?dl_k3 ?dl_a4 ?dl_l4 ?dl_c4 ?dl_k4 ?dl_a5 ?dl_l5 ?dl_c5 ?dl_k5 ?dl_a6 ?dl_l6 ?dl_c6 ?dl_k6 ?dl_a7 ?dl_l7 ?dl_c7 ?dl_k7 ?dl_a8 ?dl_l8 ?dl_c8 ?dl_k8 ?dl_a9 ?dl_l9 ?dl_c9 ?dl_k9 ?dl_a10 ?dl_l10 ?dl_c10 ?dl_k10 ?dl_a11 ?dl_l11 ?dl_c11 ?dl_k11 ?dl_a12 ?dl_l12 ?dl_c12 ?dl_k12 ?dl_a13 ?dl_l13 ?dl_c13 ?dl_k13 ?dl_a14 ?dl_l14 ?dl_c14 ?dl_k14 ?dl_a15 ?dl_l15 ?dl_c15 ?dl_k15 ?dl_a16 ?dl_l16 ?dl_c16 ?dl_k16 ?dl_a17 ?dl_l17 ?dl_c17 ?dl_k17 ?dl_a18 ?dl_l18 ?dl_c18 ?dl_k18 ?dl_a19 ?dl_l19 ?dl_c19 ?dl_k19 ?dl_a20 ?dl_l20 ?dl_c20 ?dl_k20 ?dl_a21 ?dl_l21 ?dl_c21 ?dl_k21 ?dl_a22 ?dl_l22 ?dl_c22 ?dl_k22 ?dl_a23 ?dl_l23 ?dl_c23 ?dl_k23 ?dl_a24 ?dl_l24 ?dl_c24 ?dl_k24 ?dl_a25 ?dl_l25 ?dl_c25 ?dl_k25 ?dl_a26 ?dl_l26 ?dl_c26 ?dl_k26 ?dl_a27 ?dl_l27 ?dl_c27 ?dl_k27 ?dl_a28 ?dl_l28 ?dl_c28 ?dl_k28 ?dl_a29 ?dl_l29 ?dl_c29 ?dl_k29 ?dl_a30 ?dl_l30 ?dl_c30 ?dl_k30 ?dl_a31 ?dl_l31 ?dl_c31 ?dl_k31 ?dl_a32 ?dl_l32 ?dl_c32 ?dl_k32 ?dl_a33 ?dl_l33 ?dl_c33 ?dl_k33 ?dl_g0 ?dl_g1 ?dl_z0 ?dl_z1 ?dl_z2 ?dl_z3 ?dl_z4 ?dl_z5 ?dl_z6 ?dl_z7 ?dl_z8 ?dl_z9 ?dl_z10 ?dl_z11 ?dl_z12 ?dl_z13 ?dl_z14 ?dl_xe0 ?dl_xe1 ?dl_xe2 ?dl_xi ?dl_xl ?dl_xlT ?dl_xTe ?dl_xc ?dl_xcl2 ?dl_xv2 ?dl_xfi ?dl_xcell ?dl_xcd2 ?dl_xsu ?dl_xan2 ?dl_xtop ?dl_xall
    (case dl_a0 => k_is)
    (case dl_l0 => k_is)
    (case dl_c0 => k_is)
    (case dl_k0 => k_is)
    (case dl_a1 => k_is)
    (case dl_l1 => k_is)
    (case dl_c1 => k_is)
    (case dl_k1 => k_is)
    (case dl_a2 => k_is)
    (case dl_l2 => k_is)
    (case dl_c2 => k_is)
    (case dl_k2 => k_is)
    (case dl_a3 => k_is)
    (case dl_l3 => k_is)
    (case dl_c3 => k_is)
    (case dl_k3 => k_is)
    (case dl_a4 => k_is)
    (case dl_l4 => k_is)
    (case dl_c4 => k_is)
    (case dl_k4 => k_is)
    (case dl_a5 => k_is)
    (case dl_l5 => k_is)
    (case dl_c5 => k_is)
    (case dl_k5 => k_is)
    (case dl_a6 => k_is)
    (case dl_l6 => k_is)
    (case dl_c6 => k_is)
    (case dl_k6 => k_is)
    (case dl_a7 => k_is)
    (case dl_l7 => k_is)
    (case dl_c7 => k_is)
    (case dl_k7 => k_is)
    (case dl_a8 => k_is)
    (case dl_l8 => k_is)
    (case dl_c8 => k_is)
    (case dl_k8 => k_is)
    (case dl_a9 => k_is)
    (case dl_l9 => k_is)
    (case dl_c9 => k_is)
    (case dl_k9 => k_is)
    (case dl_a10 => k_is)
    (case dl_l10 => k_is)
    (case dl_c10 => k_is)
    (case dl_k10 => k_is)
    (case dl_a11 => k_is)
    (case dl_l11 => k_is)
    (case dl_c11 => k_is)
    (case dl_k11 => k_is)
    (case dl_a12 => k_is)
    (case dl_l12 => k_is)
    (case dl_c12 => k_is)
    (case dl_k12 => k_is)
    (case dl_a13 => k_is)
    (case dl_l13 => k_is)
    (case dl_c13 => k_is)
    (case dl_k13 => k_is)
    (case dl_a14 => k_is)
    (case dl_l14 => k_is)
    (case dl_c14 => k_is)
    (case dl_k14 => k_is)
    (case dl_a15 => k_is)
    (case dl_l15 => k_is)
    (case dl_c15 => k_is)
    (case dl_k15 => k_is)
    (case dl_a16 => k_is)
    (case dl_l16 => k_is)
    (case dl_c16 => k_is)
    (case dl_k16 => k_is)
    (case dl_a17 => k_is)
    (case dl_l17 => k_is)
    (case dl_c17 => k_is)
    (case dl_k17 => k_is)
    (case dl_a18 => k_is)
    (case dl_l18 => k_is)
    (case dl_c18 => k_is)
    (case dl_k18 => k_is)
    (case dl_a19 => k_is)
    (case dl_l19 => k_is)
    (case dl_c19 => k_is)
    (case dl_k19 => k_is)
    (case dl_a20 => k_is)
    (case dl_l20 => k_is)
    (case dl_c20 => k_is)
    (case dl_k20 => k_is)
    (case dl_a21 => k_is)
    (case dl_l21 => k_is)
    (case dl_c21 => k_is)
    (case dl_k21 => k_is)
    (case dl_a22 => k_is)
    (case dl_l22 => k_is)
    (case dl_c22 => k_is)
    (case dl_k22 => k_is)
    (case dl_a23 => k_is)
    (case dl_l23 => k_is)
    (case dl_c23 => k_is)
    (case dl_k23 => k_is)
    (case dl_a24 => k_is)
    (case dl_l24 => k_is)
    (case dl_c24 => k_is)
    (case dl_k24 => k_is)
    (case dl_a25 => k_is)
    (case dl_l25 => k_is)
    (case dl_c25 => k_is)
    (case dl_k25 => k_is)
    (case dl_a26 => k_is)
    (case dl_l26 => k_is)
    (case dl_c26 => k_is)
    (case dl_k26 => k_is)
    (case dl_a27 => k_is)
    (case dl_l27 => k_is)
    (case dl_c27 => k_is)
    (case dl_k27 => k_is)
    (case dl_a28 => k_is)
    (case dl_l28 => k_is)
    (case dl_c28 => k_is)
    (case dl_k28 => k_is)
    (case dl_a29 => k_is)
    (case dl_l29 => k_is)
    (case dl_c29 => k_is)
    (case dl_k29 => k_is)
    (case dl_a30 => k_is)
    (case dl_l30 => k_is)
    (case dl_c30 => k_is)
    (case dl_k30 => k_is)
    (case dl_a31 => k_is)
    (case dl_l31 => k_is)
    (case dl_c31 => k_is)
    (case dl_k31 => k_is)
    (case dl_a32 => k_is)
    (case dl_l32 => k_is)
    (case dl_c32 => k_is)
    (case dl_k32 => k_is)
    (case dl_a33 => k_is)
    (case dl_l33 => k_is)
    (case dl_c33 => k_is)
    (case dl_k33 => k_is)
    (case dl_g0 => k_is)
    (case dl_g1 => k_is)
    (case dl_z0 => k_is)
    (case dl_z1 => k_is)
    (case dl_z2 => k_is)
    (case dl_z3 => k_is)
    (case dl_z4 => k_is)
    (case dl_z5 => k_is)
    (case dl_z6 => k_is)
    (case dl_z7 => k_is)
    (case dl_z8 => k_is)
    (case dl_z9 => k_is)
    (case dl_z10 => k_is)
    (case dl_z11 => k_is)
    (case dl_z12 => k_is)
    (case dl_z13 => k_is)
    (case dl_z14 => k_is)
    (case dl_xe0 => k_is)
    (case dl_xe1 => k_is)
    (case dl_xe2 => k_is)
    (case dl_xi => k_is)
    (case dl_xl => k_is)
    (case dl_xlT => k_is)
    (case dl_xTe => rfl)
    (case dl_xc => k_is)
    (case dl_xcl2 => k_is)
    (case dl_xv2 => rfl)
    (case dl_xfi => decide)
    (case dl_xcell => k_is)
    (case dl_xcd2 => k_is)
    (case dl_xsu => k_is)
    (case dl_xan2 => k_is)
    (case dl_xtop => rfl)
    (case dl_xall => kernel_rfl)
