import PyProof.Rows.All
import Wide.All
import OpenK.AllK
import Wide.FinOn
import PySem.Challenge.RW_on0064_01
open PySem PySem.W PyProof.Rows
set_option Elab.async false
set_option maxRecDepth 100000
set_option maxHeartbeats 4000000
set_option compiler.extract_closed false
namespace Mine

section
noncomputable def quotedF : List Int → Option (List Int × List Int)
  | [] => none
  | c :: r =>
    if c = 34 then some ([], r) else if c = 10 then none
    else if c = 92 then
      (match r with
      | [] => none
      | d :: r' => if d = 34 ∨ d = 92 ∨ d = 110 then (quotedF r').map fun p => ((if d = 110 then 10 else d) :: p.1, p.2) else none)
    else (quotedF r).map fun p => (c :: p.1, p.2)

noncomputable def quotedAt (cs : List Int) : Option (List Int × List Int) :=
  match cs with
  | [] => none
  | c :: r => if c = 34 then quotedF r else none

theorem drop_cons {cs : List Int} {p : Nat} (h : p < cs.length) : cs.drop p = cs.getD p 0 :: cs.drop (p + 1) := by
  rw [List.drop_eq_getElem_cons h]; simp [List.getD, h]
theorem drop_nil {cs : List Int} {p : Nat} (h : cs.length ≤ p) : cs.drop p = [] := List.drop_eq_nil_of_le h

theorem quotedF_suffix : ∀ (n : Nat) (cs f r : List Int), cs.length ≤ n → quotedF cs = some (f, r) → r.length < cs.length ∧ r = cs.drop (cs.length - r.length) ∧ (∀ c ∈ f, c ∈ cs ∨ c = 10) ∧ f.length + r.length < cs.length := by
  intro n
  induction n with
  | zero => intro cs f r h e; cases cs with | nil => simp [quotedF] at e | cons c r => simp at h
  | succ n ih =>
    intro cs f r h e
    have dr : ∀ (c : Int) (l t : List Int), t = l.drop (l.length - t.length) → t.length < l.length → t = (c :: l).drop ((c :: l).length - t.length) := by
      intro c l t ht hl
      have e1 : (c :: l).length - t.length = (l.length - t.length) + 1 := by simp only [List.length_cons]; omega
      rw [e1, List.drop_succ_cons]; exact ht
    cases cs with
    | nil => simp [quotedF] at e
    | cons c l =>
      unfold quotedF at e
      simp only [List.length_cons] at h
      split at e
      · simp only [Option.some.injEq, Prod.mk.injEq] at e
        obtain ⟨rfl, rfl⟩ := e
        refine ⟨by simp, ?_, by simp, by simp⟩
        have e1 : (c :: l).length - l.length = 1 := by simp only [List.length_cons]; omega
        rw [e1]; rfl
      · split at e
        · cases e
        · split at e
          · cases l with
            | nil => cases e
            | cons d l =>
              simp only [List.length_cons] at h
              dsimp only at e
              split at e
              · obtain ⟨⟨f', r'⟩, e1, e2⟩ := Option.map_eq_some_iff.mp e
                simp only [Prod.mk.injEq] at e2
                obtain ⟨rfl, rfl⟩ := e2
                obtain ⟨h1, h2, h3, h4⟩ := ih l f' r' (by omega) e1
                refine ⟨by simp only [List.length_cons]; omega, dr _ _ _ (dr _ _ _ h2 h1) (by simp only [List.length_cons]; omega), ?_, by simp only [List.length_cons]; omega⟩
                intro x hx
                rcases List.mem_cons.mp hx with rfl | hx
                · split
                  · exact .inr rfl
                  · exact .inl (by simp)
                · rcases h3 x hx with h | h
                  · exact .inl (.tail _ (.tail _ h))
                  · exact .inr h
              · cases e
          · obtain ⟨⟨f', r'⟩, e1, e2⟩ := Option.map_eq_some_iff.mp e
            simp only [Prod.mk.injEq] at e2
            obtain ⟨rfl, rfl⟩ := e2
            obtain ⟨h1, h2, h3, h4⟩ := ih l f' r' (by omega) e1
            refine ⟨by simp only [List.length_cons]; omega, dr _ _ _ h2 h1, ?_, by simp only [List.length_cons]; omega⟩
            intro x hx
            rcases List.mem_cons.mp hx with rfl | hx
            · exact .inl (.head _)
            · rcases h3 x hx with h | h
              · exact .inl (.tail _ h)
              · exact .inr h

noncomputable def QInv (whole : Option (List Int × List Int)) (cs : List Int) (p : Nat) (acc : List Int) : Prop :=
  whole = (quotedF (cs.drop p)).map fun q => (acc ++ q.1, q.2)
theorem QInv.start (cs : List Int) (p : Nat) : QInv (quotedF (cs.drop p)) cs p [] := by
  unfold QInv; cases quotedF (cs.drop p) <;> simp
theorem QInv.stop {W cs p acc} (h : QInv W cs p acc) (hp : cs.length ≤ p) : W = none := by
  unfold QInv at h; rw [h, drop_nil hp]; rfl
theorem QInv.close {W cs p acc} (h : QInv W cs p acc) (hp : p < cs.length) (hc : cs.getD p 0 = 34) : W = some (acc, cs.drop (p + 1)) := by
  unfold QInv at h; rw [h, drop_cons hp]; unfold quotedF; rw [if_pos hc]; simp
theorem QInv.line {W cs p acc} (h : QInv W cs p acc) (hp : p < cs.length) (hc : cs.getD p 0 = 10) : W = none := by
  unfold QInv at h; rw [h, drop_cons hp, hc]; unfold quotedF; simp
theorem QInv.plain {W cs p acc} (h : QInv W cs p acc) (hp : p < cs.length) (h1 : cs.getD p 0 ≠ 34) (h2 : cs.getD p 0 ≠ 10) (h3 : cs.getD p 0 ≠ 92) : QInv W cs (p + 1) (acc ++ [cs.getD p 0]) := by
  unfold QInv at h ⊢; rw [h, drop_cons hp]; conv => lhs; unfold quotedF
  rw [if_neg h1, if_neg h2, if_neg h3]
  cases quotedF (cs.drop (p + 1)) <;> simp
theorem QInv.esc {W cs p acc} (h : QInv W cs p acc) (hp : p < cs.length) (hc : cs.getD p 0 = 92) (hq : p + 1 < cs.length) (hd : cs.getD (p + 1) 0 = 34 ∨ cs.getD (p + 1) 0 = 92 ∨ cs.getD (p + 1) 0 = 110) :
    QInv W cs (p + 2) (acc ++ [if cs.getD (p + 1) 0 = 110 then 10 else cs.getD (p + 1) 0]) := by
  unfold QInv at h ⊢; rw [h, drop_cons hp, drop_cons hq]; conv => lhs; unfold quotedF
  rw [if_neg (by omega), if_neg (by omega), if_pos hc]
  dsimp only
  rw [if_pos hd]
  cases quotedF (cs.drop (p + 2)) <;> simp
theorem QInv.escEnd {W cs p acc} (h : QInv W cs p acc) (hp : p < cs.length) (hc : cs.getD p 0 = 92) (hq : cs.length ≤ p + 1) : W = none := by
  unfold QInv at h; rw [h, drop_cons hp, drop_nil hq]; unfold quotedF
  rw [if_neg (by omega), if_neg (by omega), if_pos hc]; rfl
theorem QInv.escNo {W cs p acc} (h : QInv W cs p acc) (hp : p < cs.length) (hc : cs.getD p 0 = 92) (hq : p + 1 < cs.length) (hd : ¬ (cs.getD (p + 1) 0 = 34 ∨ cs.getD (p + 1) 0 = 92 ∨ cs.getD (p + 1) 0 = 110)) : W = none := by
  unfold QInv at h; rw [h, drop_cons hp, drop_cons hq]; unfold quotedF
  rw [if_neg (by omega), if_neg (by omega), if_pos hc]
  dsimp only
  rw [if_neg hd]; rfl
theorem slice1 {cs : List Int} {p : Nat} : List.take (min ((p : Int) + 1).toNat cs.length - ((p : Int)).toNat) (List.drop ((p : Int)).toNat cs) = (cs.drop p).take 1 := by
  have e1 : ((p : Int) + 1).toNat = p + 1 := by omega
  have e2 : ((p : Int)).toNat = p := by omega
  rw [e1, e2]
  by_cases h : p < cs.length
  · rw [show min (p + 1) cs.length - p = 1 by omega]
  · rw [drop_nil (by omega)]; simp
theorem take1_eq {cs : List Int} {c : Int} : cs.take 1 = [c] ↔ ∃ r, cs = c :: r := by
  cases cs with
  | nil => simp
  | cons d r => simp
theorem quotedAt_none {cs : List Int} (h : ¬ cs.take 1 = [34]) : quotedAt cs = none := by
  cases cs with
  | nil => rfl
  | cons c r =>
    unfold quotedAt
    dsimp only
    rw [if_neg]
    intro e; subst e; simp at h
theorem quotedAt_some {cs : List Int} {p : Nat} (h : (cs.drop p).take 1 = [34]) : quotedAt (cs.drop p) = quotedF (cs.drop (p + 1)) ∧ p < cs.length := by
  obtain ⟨r, e⟩ := take1_eq.mp h
  have hp : p < cs.length := by
    rcases Nat.lt_or_ge p cs.length with h | h
    · exact h
    · rw [drop_nil h] at e; cases e
  refine ⟨?_, hp⟩
  have e2 := drop_cons hp
  rw [e] at e2
  simp only [List.cons.injEq] at e2
  rw [e]
  unfold quotedAt
  dsimp only
  rw [if_pos rfl, ← e2.2]
theorem take1_at {cs : List Int} {p : Nat} {c : Int} : (cs.drop p).take 1 = [c] ↔ p < cs.length ∧ cs.getD p 0 = c := by
  by_cases h : p < cs.length
  · rw [drop_cons h]; simp only [List.take_succ_cons, List.take_zero, List.cons.injEq, and_true, h, true_and]
  · rw [drop_nil (by omega)]; simp [h]
theorem slice2 {cs : List Int} {p : Nat} : List.take (min ((p : Int) + 1 + 1).toNat cs.length - ((p : Int) + 1).toNat) (List.drop ((p : Int) + 1).toNat cs) = (cs.drop (p + 1)).take 1 := slice1 (p := p + 1)
theorem cast1 (p : Nat) : ((p : Int) + 1) = ((p + 1 : Nat) : Int) := rfl
theorem cast2 (p : Nat) : ((p : Int) + 1 + 1) = ((p + 2 : Nat) : Int) := rfl
theorem toNat_cast (p : Nat) : ((p : Int)).toNat = p := rfl
theorem toNat_cast1 (p : Nat) : ((p : Int) + 1).toNat = p + 1 := rfl
end

section
noncomputable def no9 : Arguments × List Stmt × Scope := ({ posonlyargs := [], args := [], vararg := none, kwonlyargs := [], kw_defaults := [], kwarg := none, defaults := []}, [], { kind := .function, names := [], isGenerator := false, isCoroutine := false})
noncomputable def st9 (i : Nat) : Stmt := PySem.Challenge.pw_on0064_01.main.body.getD i (.Pass ⟨0, 0, 0, 0⟩)
noncomputable def df9 : Stmt → Arguments × List Stmt × Scope
  | .FunctionDef _ a b _ _ _ sc _ _ _ => (a, b, sc)
  | _ => no9
noncomputable def fd9 (i : Nat) : Arguments × List Stmt × Scope := df9 (st9 i)
noncomputable def md9 (i j : Nat) : Arguments × List Stmt × Scope := match st9 i with
  | .ClassDef _ _ _ b _ _ _ _ _ _ _ => df9 (b.getD j (.Pass ⟨0, 0, 0, 0⟩))
  | _ => no9
noncomputable def hd.view_39 : Program:={PySem.Challenge.pw_on0064_01 with main:={PySem.Challenge.pw_on0064_01.main with body:=[st9 1,st9 2,st9 3,st9 5,st9 7,st9 8,st9 9,st9 10,st9 11,st9 12,st9 13,st9 14,st9 15,st9 16,st9 17,st9 18,st9 19,st9 21,st9 22,st9 23,st9 24,st9 25,st9 26,st9 27,st9 28,st9 29,st9 30,st9 31,st9 32]}}
noncomputable def hd.heap_39 : Params → Frag := fun P =>
(nat_lit 2,{cls:=.none,data:=.dict #[⟨PyData.keyHash P "type.__subclasses__.Exception.0",.str "type.__subclasses__.Exception.0" 291,.int 78 0⟩,⟨PyData.keyHash P "type.__subclasses__.Exception.n",.str "type.__subclasses__.Exception.n" 292,.int 1 0⟩] 2}) ::
(nat_lit 3,{cls:=.type "dict",data:=.dict #[⟨PyData.keyHash P "__name__",.str "__name__" 165,.str "law_on0064_01" 440⟩,⟨PyData.keyHash P "__doc__",.str "__doc__" 166,.none⟩,⟨PyData.keyHash P "__package__",.str "__package__" 167,.none⟩,⟨PyData.keyHash P "__loader__",.str "__loader__" 168,.builtin "__main__.__loader__#opaque"⟩,⟨PyData.keyHash P "__spec__",.str "__spec__" 169,.none⟩,⟨PyData.keyHash P "__annotations__",.str "__annotations__" 170,.ref 6⟩,⟨PyData.keyHash P "__builtins__",.str "__builtins__" 171,.ref 4⟩,⟨PyData.keyHash P "__file__",.str "__file__" 173,.str "/claim/cut.py" 172⟩,⟨PyData.keyHash P "__cached__",.str "__cached__" 174,.none⟩,⟨PyData.keyHash P "Abbrev",.str "Abbrev" 222,.ref 31⟩,⟨PyData.keyHash P "AbbrevTable",.str "AbbrevTable" 255,.ref 52⟩,⟨PyData.keyHash P "key_of",.str "key_of" 261,.ref 61⟩,⟨PyData.keyHash P "LispSignal",.str "LispSignal" 294,.ref 78⟩,⟨PyData.keyHash P "QUOTE",.str "QUOTE" 298,.int 34 297⟩,⟨PyData.keyHash P "BACKSLASH",.str "BACKSLASH" 300,.int 92 299⟩,⟨PyData.keyHash P "ROW_END",.str "ROW_END" 302,.int 10 301⟩,⟨PyData.keyHash P "BLANK",.str "BLANK" 304,.int 32 303⟩,⟨PyData.keyHash P "LETTER_N",.str "LETTER_N" 306,.int 110 305⟩,⟨PyData.keyHash P "EXACT",.str "EXACT" 312,.ref 82⟩,⟨PyData.keyHash P "quoted",.str "quoted" 321,.ref 89⟩,⟨PyData.keyHash P "entry_text",.str "entry_text" 327,.ref 94⟩,⟨PyData.keyHash P "entry_word",.str "entry_word" 334,.ref 101⟩,⟨PyData.keyHash P "table_text",.str "table_text" 340,.ref 106⟩,⟨PyData.keyHash P "refuse",.str "refuse" 346,.ref 113⟩,⟨PyData.keyHash P "Reading",.str "Reading" 428,.ref 172⟩,⟨PyData.keyHash P "read_entries",.str "read_entries" 439,.ref 183⟩,⟨PyData.keyHash P "_law_draw",.str "_law_draw" 450,.ref 190⟩,⟨PyData.keyHash P "_law_deck_of",.str "_law_deck_of" 456,.ref 195⟩,⟨PyData.keyHash P "_law_one",.str "_law_one" 464,.ref 202⟩,⟨PyData.keyHash P "_law_some_codes",.str "_law_some_codes" 470,.ref 207⟩,⟨PyData.keyHash P "_law_shown",.str "_law_shown" 479,.ref 214⟩,⟨PyData.keyHash P "_law_row_of",.str "_law_row_of" 485,.ref 219⟩,⟨PyData.keyHash P "_law_quoted_at",.str "_law_quoted_at" 494,.ref 226⟩,⟨PyData.keyHash P "_law_entry_at",.str "_law_entry_at" 500,.ref 231⟩,⟨PyData.keyHash P "_law_entries_of",.str "_law_entries_of" 510,.ref 238⟩,⟨PyData.keyHash P "_law_sorted_text",.str "_law_sorted_text" 516,.ref 243⟩,⟨PyData.keyHash P "_law_is_alike",.str "_law_is_alike" 528,.ref 250⟩,⟨PyData.keyHash P "law",.str "law" 534,.ref 255⟩] 38}) ::
(nat_lit 22,{cls:=.type "tuple",data:=.seq #[]}) ::
(nat_lit 24,{cls:=.type "tuple",data:=.seq #[.str "self" 204,.str "word" 205,.str "codes" 206,.str "is_exact" 207]}) ::
(nat_lit 25,{cls:=.type "tuple",data:=.seq #[]}) ::
(nat_lit 27,{cls:=.type "code",data:=.fields #[.str "__init__" 201,.str "Abbrev.__init__" 202,.str "/claim/cut.py" 203,.int 4 0,.int 4 0,.int 0 0,.int 0 0,.int 3 0,.ref 22,.bool true,.int 181 0,.ref 23,.none,.ref 24,.ref 25,.ref 26,.int 208 0,.int 4 0,.str "/claim/cut.py" 209]}) ::
(nat_lit 28,{cls:=.type "function",data:=.func ⟨"__init__","Abbrev.__init__",(md9 1 0).1,.stmts (md9 1 0).2.1,(md9 1 0).2.2,3,[],.none,.none,.none,.str "emacs.abbrevtable" 187,none,.ref 27,.none,0⟩}) ::
(nat_lit 29,{cls:=.type "tuple",data:=.seq #[.str "codes" 211,.str "is_exact" 212,.str "used" 213,.str "word" 214]}) ::
(nat_lit 30,{cls:=.type "dict",data:=.dict #[⟨PyData.keyHash P "__module__",.str "__module__" 196,.str "emacs.abbrevtable" 187⟩,⟨PyData.keyHash P "__firstlineno__",.str "__firstlineno__" 200,.int 2 199⟩,⟨PyData.keyHash P "__init__",.str "__init__" 210,.ref 28⟩,⟨PyData.keyHash P "__static_attributes__",.str "__static_attributes__" 215,.ref 29⟩,⟨PyData.keyHash P "__dict__",.str "__dict__" 217,.ref 32⟩,⟨PyData.keyHash P "__weakref__",.str "__weakref__" 219,.ref 33⟩,⟨PyData.keyHash P "__doc__",.str "__doc__" 220,.none⟩] 4}) ::
(nat_lit 31,{cls:=.type "type",data:=.cls {name:="Abbrev",bases:=[.type "object"],mro:=[.ref 31,.type "object"],ns:=30,qualname:="Abbrev"},slots:=#[none,none,some (.str "Abbrev" 189),some (.str "Abbrev" 197),some (.builtin "object.__new__"),some (.bool true)]}) ::
(nat_lit 32,{cls:=.type "getset_descriptor",data:=.fields #[.str "__dict__" 216,.ref 31,.builtin "function.__dict__",.builtin "function.__dict__#set"]}) ::
(nat_lit 33,{cls:=.type "getset_descriptor",data:=.fields #[.str "__weakref__" 218,.ref 31,.builtin "ExceptionGroup.__weakref__",.none]}) ::
(nat_lit 43,{cls:=.type "tuple",data:=.seq #[]}) ::
(nat_lit 45,{cls:=.type "tuple",data:=.seq #[.str "self" 238,.str "name" 239,.str "parents" 240]}) ::
(nat_lit 46,{cls:=.type "tuple",data:=.seq #[]}) ::
(nat_lit 48,{cls:=.type "code",data:=.fields #[.str "__init__" 235,.str "AbbrevTable.__init__" 236,.str "/claim/cut.py" 237,.int 11 0,.int 3 0,.int 0 0,.int 0 0,.int 3 0,.ref 43,.bool true,.int 181 0,.ref 44,.none,.ref 45,.ref 46,.ref 47,.int 241 0,.int 11 0,.str "/claim/cut.py" 242]}) ::
(nat_lit 49,{cls:=.type "function",data:=.func ⟨"__init__","AbbrevTable.__init__",(md9 2 0).1,.stmts (md9 2 0).2.1,(md9 2 0).2.2,3,[],.none,.none,.none,.str "emacs.abbrevtable" 187,none,.ref 48,.none,0⟩}) ::
(nat_lit 50,{cls:=.type "tuple",data:=.seq #[.str "entries" 244,.str "is_all_great" 245,.str "name" 246,.str "parents" 247]}) ::
(nat_lit 51,{cls:=.type "dict",data:=.dict #[⟨PyData.keyHash P "__module__",.str "__module__" 230,.str "emacs.abbrevtable" 187⟩,⟨PyData.keyHash P "__firstlineno__",.str "__firstlineno__" 234,.int 9 233⟩,⟨PyData.keyHash P "__init__",.str "__init__" 243,.ref 49⟩,⟨PyData.keyHash P "__static_attributes__",.str "__static_attributes__" 248,.ref 50⟩,⟨PyData.keyHash P "__dict__",.str "__dict__" 250,.ref 53⟩,⟨PyData.keyHash P "__weakref__",.str "__weakref__" 252,.ref 54⟩,⟨PyData.keyHash P "__doc__",.str "__doc__" 253,.none⟩] 4}) ::
(nat_lit 52,{cls:=.type "type",data:=.cls {name:="AbbrevTable",bases:=[.type "object"],mro:=[.ref 52,.type "object"],ns:=51,qualname:="AbbrevTable"},slots:=#[none,none,some (.str "AbbrevTable" 223),some (.str "AbbrevTable" 231),some (.builtin "object.__new__"),some (.bool true)]}) ::
(nat_lit 53,{cls:=.type "getset_descriptor",data:=.fields #[.str "__dict__" 249,.ref 52,.builtin "function.__dict__",.builtin "function.__dict__#set"]}) ::
(nat_lit 54,{cls:=.type "getset_descriptor",data:=.fields #[.str "__weakref__" 251,.ref 52,.builtin "ExceptionGroup.__weakref__",.none]}) ::
(nat_lit 57,{cls:=.type "tuple",data:=.seq #[]}) ::
(nat_lit 60,{cls:=.type "code",data:=.fields #[.str "key_of" 256,.str "key_of" 257,.str "/claim/cut.py" 258,.int 16 0,.int 1 0,.int 0 0,.int 0 0,.int 3 0,.ref 57,.bool true,.int 181 0,.ref 58,.none,.none,.none,.ref 59,.int 259 0,.int 16 0,.str "/claim/cut.py" 260]}) ::
(nat_lit 61,{cls:=.type "function",data:=.func ⟨"key_of","key_of",(fd9 3).1,.stmts (fd9 3).2.1,(fd9 3).2.2,3,[],.none,.none,.none,.str "emacs.abbrevtable" 187,none,.ref 60,.none,0⟩}) ::
(nat_lit 62,{cls:=.type "tuple",data:=.seq #[.type "Exception"]}) ::
(nat_lit 69,{cls:=.type "tuple",data:=.seq #[]}) ::
(nat_lit 71,{cls:=.type "tuple",data:=.seq #[.str "self" 279,.str "symbol" 280,.str "data" 281]}) ::
(nat_lit 72,{cls:=.type "tuple",data:=.seq #[]}) ::
(nat_lit 74,{cls:=.type "code",data:=.fields #[.str "__init__" 276,.str "LispSignal.__init__" 277,.str "/claim/cut.py" 278,.int 21 0,.int 3 0,.int 0 0,.int 0 0,.int 3 0,.ref 69,.bool true,.int 181 0,.ref 70,.none,.ref 71,.ref 72,.ref 73,.int 282 0,.int 21 0,.str "/claim/cut.py" 283]}) ::
(nat_lit 75,{cls:=.type "function",data:=.func ⟨"__init__","LispSignal.__init__",(md9 5 0).1,.stmts (md9 5 0).2.1,(md9 5 0).2.2,3,[],.none,.none,.none,.str "emacs.errors" 262,none,.ref 74,.none,0⟩}) ::
(nat_lit 76,{cls:=.type "tuple",data:=.seq #[.str "data" 285,.str "symbol" 286]}) ::
(nat_lit 77,{cls:=.type "dict",data:=.dict #[⟨PyData.keyHash P "__module__",.str "__module__" 271,.str "emacs.errors" 262⟩,⟨PyData.keyHash P "__firstlineno__",.str "__firstlineno__" 275,.int 19 274⟩,⟨PyData.keyHash P "__init__",.str "__init__" 284,.ref 75⟩,⟨PyData.keyHash P "__static_attributes__",.str "__static_attributes__" 287,.ref 76⟩,⟨PyData.keyHash P "__weakref__",.str "__weakref__" 289,.ref 79⟩,⟨PyData.keyHash P "__doc__",.str "__doc__" 290,.none⟩] 3}) ::
(nat_lit 78,{cls:=.type "type",data:=.cls {name:="LispSignal",bases:=[.type "Exception"],mro:=[.ref 78,.type "Exception",.type "BaseException",.type "object"],ns:=77,qualname:="LispSignal"},slots:=#[some (.ref 62),none,some (.str "LispSignal" 264),some (.str "LispSignal" 272),some (.builtin "Exception.__new__"),some (.bool true)]}) ::
(nat_lit 79,{cls:=.type "getset_descriptor",data:=.fields #[.str "__weakref__" 288,.ref 78,.builtin "ExceptionGroup.__weakref__",.none]}) ::
(nat_lit 82,{cls:=.type "list",data:=.seq #[.int 101 307,.int 120 308,.int 97 309,.int 99 310,.int 116 311]}) ::
(nat_lit 83,{cls:=.type "tuple",data:=.seq #[]}) ::
(nat_lit 85,{cls:=.type "tuple",data:=.seq #[.str "codes" 316,.str "found" 317,.str "code" 318]}) ::
(nat_lit 86,{cls:=.type "tuple",data:=.seq #[]}) ::
(nat_lit 88,{cls:=.type "code",data:=.fields #[.str "quoted" 313,.str "quoted" 314,.str "/claim/cut.py" 315,.int 31 0,.int 1 0,.int 0 0,.int 0 0,.int 3 0,.ref 83,.bool true,.int 181 0,.ref 84,.none,.ref 85,.ref 86,.ref 87,.int 319 0,.int 31 0,.str "/claim/cut.py" 320]}) ::
(nat_lit 89,{cls:=.type "function",data:=.func ⟨"quoted","quoted",(fd9 13).1,.stmts (fd9 13).2.1,(fd9 13).2.2,3,[],.none,.none,.none,.str "emacs.abbrevtext" 295,none,.ref 88,.none,0⟩}) ::
(nat_lit 90,{cls:=.type "tuple",data:=.seq #[]}) ::
(nat_lit 93,{cls:=.type "code",data:=.fields #[.str "entry_text" 322,.str "entry_text" 323,.str "/claim/cut.py" 324,.int 41 0,.int 1 0,.int 0 0,.int 0 0,.int 3 0,.ref 90,.bool true,.int 181 0,.ref 91,.none,.none,.none,.ref 92,.int 325 0,.int 41 0,.str "/claim/cut.py" 326]}) ::
(nat_lit 94,{cls:=.type "function",data:=.func ⟨"entry_text","entry_text",(fd9 14).1,.stmts (fd9 14).2.1,(fd9 14).2.2,3,[],.none,.none,.none,.str "emacs.abbrevtext" 295,none,.ref 93,.none,0⟩}) ::
(nat_lit 95,{cls:=.type "tuple",data:=.seq #[]}) ::
(nat_lit 97,{cls:=.type "tuple",data:=.seq #[.str "entry" 331]}) ::
(nat_lit 98,{cls:=.type "tuple",data:=.seq #[]}) ::
(nat_lit 100,{cls:=.type "code",data:=.fields #[.str "entry_word" 328,.str "entry_word" 329,.str "/claim/cut.py" 330,.int 46 0,.int 1 0,.int 0 0,.int 0 0,.int 3 0,.ref 95,.bool true,.int 181 0,.ref 96,.none,.ref 97,.ref 98,.ref 99,.int 332 0,.int 46 0,.str "/claim/cut.py" 333]}) ::
(nat_lit 101,{cls:=.type "function",data:=.func ⟨"entry_word","entry_word",(fd9 15).1,.stmts (fd9 15).2.1,(fd9 15).2.2,3,[],.none,.none,.none,.str "emacs.abbrevtext" 295,none,.ref 100,.none,0⟩}) ::
(nat_lit 102,{cls:=.type "tuple",data:=.seq #[]}) ::
(nat_lit 105,{cls:=.type "code",data:=.fields #[.str "table_text" 335,.str "table_text" 336,.str "/claim/cut.py" 337,.int 48 0,.int 1 0,.int 0 0,.int 0 0,.int 3 0,.ref 102,.bool true,.int 181 0,.ref 103,.none,.none,.none,.ref 104,.int 338 0,.int 48 0,.str "/claim/cut.py" 339]}) ::
(nat_lit 106,{cls:=.type "function",data:=.func ⟨"table_text","table_text",(fd9 16).1,.stmts (fd9 16).2.1,(fd9 16).2.2,3,[],.none,.none,.none,.str "emacs.abbrevtext" 295,none,.ref 105,.none,0⟩}) ::
(nat_lit 107,{cls:=.type "tuple",data:=.seq #[]}) ::
(nat_lit 109,{cls:=.type "tuple",data:=.seq #[]}) ::
(nat_lit 110,{cls:=.type "tuple",data:=.seq #[]}) ::
(nat_lit 112,{cls:=.type "code",data:=.fields #[.str "refuse" 341,.str "refuse" 342,.str "/claim/cut.py" 343,.int 53 0,.int 0 0,.int 0 0,.int 0 0,.int 3 0,.ref 107,.bool true,.int 181 0,.ref 108,.none,.ref 109,.ref 110,.ref 111,.int 344 0,.int 53 0,.str "/claim/cut.py" 345]}) ::
(nat_lit 113,{cls:=.type "function",data:=.func ⟨"refuse","refuse",(fd9 17).1,.stmts (fd9 17).2.1,(fd9 17).2.2,3,[],.none,.none,.none,.str "emacs.abbrevtext" 295,none,.ref 112,.none,0⟩}) ::
(nat_lit 121,{cls:=.type "tuple",data:=.seq #[]}) ::
(nat_lit 123,{cls:=.type "tuple",data:=.seq #[.str "self" 362,.str "codes" 363]}) ::
(nat_lit 124,{cls:=.type "tuple",data:=.seq #[]}) ::
(nat_lit 126,{cls:=.type "code",data:=.fields #[.str "__init__" 359,.str "Reading.__init__" 360,.str "/claim/cut.py" 361,.int 57 0,.int 2 0,.int 0 0,.int 0 0,.int 3 0,.ref 121,.bool true,.int 181 0,.ref 122,.none,.ref 123,.ref 124,.ref 125,.int 364 0,.int 57 0,.str "/claim/cut.py" 365]}) ::
(nat_lit 127,{cls:=.type "function",data:=.func ⟨"__init__","Reading.__init__",(md9 18 0).1,.stmts (md9 18 0).2.1,(md9 18 0).2.2,3,[],.none,.none,.none,.str "emacs.abbrevtext" 295,none,.ref 126,.none,0⟩}) ::
(nat_lit 128,{cls:=.type "tuple",data:=.seq #[]}) ::
(nat_lit 130,{cls:=.type "tuple",data:=.seq #[.str "self" 370]}) ::
(nat_lit 131,{cls:=.type "tuple",data:=.seq #[]}) ::
(nat_lit 133,{cls:=.type "code",data:=.fields #[.str "code" 367,.str "Reading.code" 368,.str "/claim/cut.py" 369,.int 61 0,.int 1 0,.int 0 0,.int 0 0,.int 3 0,.ref 128,.bool true,.int 181 0,.ref 129,.none,.ref 130,.ref 131,.ref 132,.int 371 0,.int 61 0,.str "/claim/cut.py" 372]}) ::
(nat_lit 134,{cls:=.type "function",data:=.func ⟨"code","Reading.code",(md9 18 1).1,.stmts (md9 18 1).2.1,(md9 18 1).2.2,3,[],.none,.none,.none,.str "emacs.abbrevtext" 295,none,.ref 133,.none,0⟩}) ::
(nat_lit 135,{cls:=.type "tuple",data:=.seq #[]}) ::
(nat_lit 137,{cls:=.type "tuple",data:=.seq #[.str "self" 377,.str "code" 378]}) ::
(nat_lit 138,{cls:=.type "tuple",data:=.seq #[]}) ::
(nat_lit 140,{cls:=.type "code",data:=.fields #[.str "take" 374,.str "Reading.take" 375,.str "/claim/cut.py" 376,.int 64 0,.int 2 0,.int 0 0,.int 0 0,.int 3 0,.ref 135,.bool true,.int 181 0,.ref 136,.none,.ref 137,.ref 138,.ref 139,.int 379 0,.int 64 0,.str "/claim/cut.py" 380]}) ::
(nat_lit 141,{cls:=.type "function",data:=.func ⟨"take","Reading.take",(md9 18 2).1,.stmts (md9 18 2).2.1,(md9 18 2).2.2,3,[],.none,.none,.none,.str "emacs.abbrevtext" 295,none,.ref 140,.none,0⟩}) ::
(nat_lit 142,{cls:=.type "tuple",data:=.seq #[]}) ::
(nat_lit 144,{cls:=.type "tuple",data:=.seq #[.str "self" 385,.str "found" 386]}) ::
(nat_lit 145,{cls:=.type "tuple",data:=.seq #[]}) ::
(nat_lit 147,{cls:=.type "code",data:=.fields #[.str "text" 382,.str "Reading.text" 383,.str "/claim/cut.py" 384,.int 69 0,.int 1 0,.int 0 0,.int 0 0,.int 3 0,.ref 142,.bool true,.int 181 0,.ref 143,.none,.ref 144,.ref 145,.ref 146,.int 387 0,.int 69 0,.str "/claim/cut.py" 388]}) ::
(nat_lit 148,{cls:=.type "function",data:=.func ⟨"text","Reading.text",(md9 18 3).1,.stmts (md9 18 3).2.1,(md9 18 3).2.2,3,[],.none,.none,.none,.str "emacs.abbrevtext" 295,none,.ref 147,.none,0⟩}) ::
(nat_lit 149,{cls:=.type "tuple",data:=.seq #[]}) ::
(nat_lit 151,{cls:=.type "tuple",data:=.seq #[.str "self" 393]}) ::
(nat_lit 152,{cls:=.type "tuple",data:=.seq #[]}) ::
(nat_lit 154,{cls:=.type "code",data:=.fields #[.str "escaped" 390,.str "Reading.escaped" 391,.str "/claim/cut.py" 392,.int 84 0,.int 1 0,.int 0 0,.int 0 0,.int 3 0,.ref 149,.bool true,.int 181 0,.ref 150,.none,.ref 151,.ref 152,.ref 153,.int 394 0,.int 84 0,.str "/claim/cut.py" 395]}) ::
(nat_lit 155,{cls:=.type "function",data:=.func ⟨"escaped","Reading.escaped",(md9 18 4).1,.stmts (md9 18 4).2.1,(md9 18 4).2.2,3,[],.none,.none,.none,.str "emacs.abbrevtext" 295,none,.ref 154,.none,0⟩}) ::
(nat_lit 156,{cls:=.type "tuple",data:=.seq #[]}) ::
(nat_lit 158,{cls:=.type "tuple",data:=.seq #[.str "self" 400,.str "begin" 401,.str "found" 402]}) ::
(nat_lit 159,{cls:=.type "tuple",data:=.seq #[]}) ::
(nat_lit 161,{cls:=.type "code",data:=.fields #[.str "number" 397,.str "Reading.number" 398,.str "/claim/cut.py" 399,.int 91 0,.int 1 0,.int 0 0,.int 0 0,.int 3 0,.ref 156,.bool true,.int 181 0,.ref 157,.none,.ref 158,.ref 159,.ref 160,.int 403 0,.int 91 0,.str "/claim/cut.py" 404]}) ::
(nat_lit 162,{cls:=.type "function",data:=.func ⟨"number","Reading.number",(md9 18 5).1,.stmts (md9 18 5).2.1,(md9 18 5).2.2,3,[],.none,.none,.none,.str "emacs.abbrevtext" 295,none,.ref 161,.none,0⟩}) ::
(nat_lit 163,{cls:=.type "tuple",data:=.seq #[]}) ::
(nat_lit 165,{cls:=.type "tuple",data:=.seq #[.str "self" 409,.str "word" 410,.str "used" 411,.str "codes" 412,.str "is_exact" 413,.str "code" 414,.str "found" 415]}) ::
(nat_lit 166,{cls:=.type "tuple",data:=.seq #[]}) ::
(nat_lit 168,{cls:=.type "code",data:=.fields #[.str "entry" 406,.str "Reading.entry" 407,.str "/claim/cut.py" 408,.int 101 0,.int 1 0,.int 0 0,.int 0 0,.int 3 0,.ref 163,.bool true,.int 181 0,.ref 164,.none,.ref 165,.ref 166,.ref 167,.int 416 0,.int 101 0,.str "/claim/cut.py" 417]}) ::
(nat_lit 169,{cls:=.type "function",data:=.func ⟨"entry","Reading.entry",(md9 18 6).1,.stmts (md9 18 6).2.1,(md9 18 6).2.2,3,[],.none,.none,.none,.str "emacs.abbrevtext" 295,none,.ref 168,.none,0⟩}) ::
(nat_lit 170,{cls:=.type "tuple",data:=.seq #[.str "codes" 419,.str "place" 420]}) ::
(nat_lit 171,{cls:=.type "dict",data:=.dict #[⟨PyData.keyHash P "__module__",.str "__module__" 354,.str "emacs.abbrevtext" 295⟩,⟨PyData.keyHash P "__firstlineno__",.str "__firstlineno__" 358,.int 55 357⟩,⟨PyData.keyHash P "__init__",.str "__init__" 366,.ref 127⟩,⟨PyData.keyHash P "code",.str "code" 373,.ref 134⟩,⟨PyData.keyHash P "take",.str "take" 381,.ref 141⟩,⟨PyData.keyHash P "text",.str "text" 389,.ref 148⟩,⟨PyData.keyHash P "escaped",.str "escaped" 396,.ref 155⟩,⟨PyData.keyHash P "number",.str "number" 405,.ref 162⟩,⟨PyData.keyHash P "entry",.str "entry" 418,.ref 169⟩,⟨PyData.keyHash P "__static_attributes__",.str "__static_attributes__" 421,.ref 170⟩,⟨PyData.keyHash P "__dict__",.str "__dict__" 423,.ref 173⟩,⟨PyData.keyHash P "__weakref__",.str "__weakref__" 425,.ref 174⟩,⟨PyData.keyHash P "__doc__",.str "__doc__" 426,.none⟩] 4}) ::
(nat_lit 172,{cls:=.type "type",data:=.cls {name:="Reading",bases:=[.type "object"],mro:=[.ref 172,.type "object"],ns:=171,qualname:="Reading"},slots:=#[none,none,some (.str "Reading" 347),some (.str "Reading" 355),some (.builtin "object.__new__"),some (.bool true)]}) ::
(nat_lit 173,{cls:=.type "getset_descriptor",data:=.fields #[.str "__dict__" 422,.ref 172,.builtin "function.__dict__",.builtin "function.__dict__#set"]}) ::
(nat_lit 174,{cls:=.type "getset_descriptor",data:=.fields #[.str "__weakref__" 424,.ref 172,.builtin "ExceptionGroup.__weakref__",.none]}) ::
(nat_lit 177,{cls:=.type "tuple",data:=.seq #[]}) ::
(nat_lit 179,{cls:=.type "tuple",data:=.seq #[.str "table" 432,.str "codes" 433,.str "reading" 434,.str "found" 435,.str "entry" 436]}) ::
(nat_lit 180,{cls:=.type "tuple",data:=.seq #[]}) ::
(nat_lit 182,{cls:=.type "code",data:=.fields #[.str "read_entries" 429,.str "read_entries" 430,.str "/claim/cut.py" 431,.int 115 0,.int 2 0,.int 0 0,.int 0 0,.int 3 0,.ref 177,.bool true,.int 181 0,.ref 178,.none,.ref 179,.ref 180,.ref 181,.int 437 0,.int 115 0,.str "/claim/cut.py" 438]}) ::
(nat_lit 183,{cls:=.type "function",data:=.func ⟨"read_entries","read_entries",(fd9 19).1,.stmts (fd9 19).2.1,(fd9 19).2.2,3,[],.none,.none,.none,.str "emacs.abbrevtext" 295,none,.ref 182,.none,0⟩}) ::
(nat_lit 184,{cls:=.type "tuple",data:=.seq #[]}) ::
(nat_lit 186,{cls:=.type "tuple",data:=.seq #[.str "_law_deck" 445,.str "_law_many" 446,.str "_law_found" 447]}) ::
(nat_lit 187,{cls:=.type "tuple",data:=.seq #[]}) ::
(nat_lit 189,{cls:=.type "code",data:=.fields #[.str "_law_draw" 442,.str "_law_draw" 443,.str "/claim/cut.py" 444,.int 124 0,.int 2 0,.int 0 0,.int 0 0,.int 3 0,.ref 184,.bool true,.int 181 0,.ref 185,.none,.ref 186,.ref 187,.ref 188,.int 448 0,.int 124 0,.str "/claim/cut.py" 449]}) ::
(nat_lit 190,{cls:=.type "function",data:=.func ⟨"_law_draw","_law_draw",(fd9 21).1,.stmts (fd9 21).2.1,(fd9 21).2.2,3,[],.none,.none,.none,.str "law_on0064_01" 440,none,.ref 189,.none,0⟩}) ::
(nat_lit 191,{cls:=.type "tuple",data:=.seq #[]}) ::
(nat_lit 194,{cls:=.type "code",data:=.fields #[.str "_law_deck_of" 451,.str "_law_deck_of" 452,.str "/claim/cut.py" 453,.int 133 0,.int 1 0,.int 0 0,.int 0 0,.int 3 0,.ref 191,.bool true,.int 181 0,.ref 192,.none,.none,.none,.ref 193,.int 454 0,.int 133 0,.str "/claim/cut.py" 455]}) ::
(nat_lit 195,{cls:=.type "function",data:=.func ⟨"_law_deck_of","_law_deck_of",(fd9 22).1,.stmts (fd9 22).2.1,(fd9 22).2.2,3,[],.none,.none,.none,.str "law_on0064_01" 440,none,.ref 194,.none,0⟩}) ::
(nat_lit 196,{cls:=.type "tuple",data:=.seq #[]}) ::
(nat_lit 198,{cls:=.type "tuple",data:=.seq #[.str "_law_deck" 460,.str "_law_items" 461]}) ::
(nat_lit 199,{cls:=.type "tuple",data:=.seq #[]}) ::
(nat_lit 201,{cls:=.type "code",data:=.fields #[.str "_law_one" 457,.str "_law_one" 458,.str "/claim/cut.py" 459,.int 138 0,.int 2 0,.int 0 0,.int 0 0,.int 3 0,.ref 196,.bool true,.int 181 0,.ref 197,.none,.ref 198,.ref 199,.ref 200,.int 462 0,.int 138 0,.str "/claim/cut.py" 463]}) ::
(nat_lit 202,{cls:=.type "function",data:=.func ⟨"_law_one","_law_one",(fd9 23).1,.stmts (fd9 23).2.1,(fd9 23).2.2,3,[],.none,.none,.none,.str "law_on0064_01" 440,none,.ref 201,.none,0⟩}) ::
(nat_lit 203,{cls:=.type "tuple",data:=.seq #[]}) ::
(nat_lit 206,{cls:=.type "code",data:=.fields #[.str "_law_some_codes" 465,.str "_law_some_codes" 466,.str "/claim/cut.py" 467,.int 140 0,.int 3 0,.int 0 0,.int 0 0,.int 3 0,.ref 203,.bool true,.int 181 0,.ref 204,.none,.none,.none,.ref 205,.int 468 0,.int 140 0,.str "/claim/cut.py" 469]}) ::
(nat_lit 207,{cls:=.type "function",data:=.func ⟨"_law_some_codes","_law_some_codes",(fd9 24).1,.stmts (fd9 24).2.1,(fd9 24).2.2,3,[],.none,.none,.none,.str "law_on0064_01" 440,none,.ref 206,.none,0⟩}) ::
(nat_lit 208,{cls:=.type "tuple",data:=.seq #[]}) ::
(nat_lit 210,{cls:=.type "tuple",data:=.seq #[.str "_law_codes" 474,.str "_law_found" 475,.str "_law_code" 476]}) ::
(nat_lit 211,{cls:=.type "tuple",data:=.seq #[]}) ::
(nat_lit 213,{cls:=.type "code",data:=.fields #[.str "_law_shown" 471,.str "_law_shown" 472,.str "/claim/cut.py" 473,.int 142 0,.int 1 0,.int 0 0,.int 0 0,.int 3 0,.ref 208,.bool true,.int 181 0,.ref 209,.none,.ref 210,.ref 211,.ref 212,.int 477 0,.int 142 0,.str "/claim/cut.py" 478]}) ::
(nat_lit 214,{cls:=.type "function",data:=.func ⟨"_law_shown","_law_shown",(fd9 25).1,.stmts (fd9 25).2.1,(fd9 25).2.2,3,[],.none,.none,.none,.str "law_on0064_01" 440,none,.ref 213,.none,0⟩}) ::
(nat_lit 215,{cls:=.type "tuple",data:=.seq #[]}) ::
(nat_lit 218,{cls:=.type "code",data:=.fields #[.str "_law_row_of" 480,.str "_law_row_of" 481,.str "/claim/cut.py" 482,.int 147 0,.int 1 0,.int 0 0,.int 0 0,.int 3 0,.ref 215,.bool true,.int 181 0,.ref 216,.none,.none,.none,.ref 217,.int 483 0,.int 147 0,.str "/claim/cut.py" 484]}) ::
(nat_lit 219,{cls:=.type "function",data:=.func ⟨"_law_row_of","_law_row_of",(fd9 26).1,.stmts (fd9 26).2.1,(fd9 26).2.2,3,[],.none,.none,.none,.str "law_on0064_01" 440,none,.ref 218,.none,0⟩}) ::
(nat_lit 220,{cls:=.type "tuple",data:=.seq #[]}) ::
(nat_lit 222,{cls:=.type "tuple",data:=.seq #[.str "_law_codes" 489,.str "_law_at" 490,.str "_law_found" 491]}) ::
(nat_lit 223,{cls:=.type "tuple",data:=.seq #[]}) ::
(nat_lit 225,{cls:=.type "code",data:=.fields #[.str "_law_quoted_at" 486,.str "_law_quoted_at" 487,.str "/claim/cut.py" 488,.int 151 0,.int 2 0,.int 0 0,.int 0 0,.int 3 0,.ref 220,.bool true,.int 181 0,.ref 221,.none,.ref 222,.ref 223,.ref 224,.int 492 0,.int 151 0,.str "/claim/cut.py" 493]}) ::
(nat_lit 226,{cls:=.type "function",data:=.func ⟨"_law_quoted_at","_law_quoted_at",(fd9 27).1,.stmts (fd9 27).2.1,(fd9 27).2.2,3,[],.none,.none,.none,.str "law_on0064_01" 440,none,.ref 225,.none,0⟩}) ::
(nat_lit 227,{cls:=.type "tuple",data:=.seq #[]}) ::
(nat_lit 230,{cls:=.type "code",data:=.fields #[.str "_law_entry_at" 495,.str "_law_entry_at" 496,.str "/claim/cut.py" 497,.int 167 0,.int 2 0,.int 0 0,.int 0 0,.int 3 0,.ref 227,.bool true,.int 181 0,.ref 228,.none,.none,.none,.ref 229,.int 498 0,.int 167 0,.str "/claim/cut.py" 499]}) ::
(nat_lit 231,{cls:=.type "function",data:=.func ⟨"_law_entry_at","_law_entry_at",(fd9 28).1,.stmts (fd9 28).2.1,(fd9 28).2.2,3,[],.none,.none,.none,.str "law_on0064_01" 440,none,.ref 230,.none,0⟩}) ::
(nat_lit 232,{cls:=.type "tuple",data:=.seq #[]}) ::
(nat_lit 234,{cls:=.type "tuple",data:=.seq #[.str "_law_codes" 504,.str "_law_found" 505,.str "_law_at" 506,.str "_law_own" 507]}) ::
(nat_lit 235,{cls:=.type "tuple",data:=.seq #[]}) ::
(nat_lit 237,{cls:=.type "code",data:=.fields #[.str "_law_entries_of" 501,.str "_law_entries_of" 502,.str "/claim/cut.py" 503,.int 185 0,.int 1 0,.int 0 0,.int 0 0,.int 3 0,.ref 232,.bool true,.int 181 0,.ref 233,.none,.ref 234,.ref 235,.ref 236,.int 508 0,.int 185 0,.str "/claim/cut.py" 509]}) ::
(nat_lit 238,{cls:=.type "function",data:=.func ⟨"_law_entries_of","_law_entries_of",(fd9 29).1,.stmts (fd9 29).2.1,(fd9 29).2.2,3,[],.none,.none,.none,.str "law_on0064_01" 440,none,.ref 237,.none,0⟩}) ::
(nat_lit 239,{cls:=.type "tuple",data:=.seq #[]}) ::
(nat_lit 242,{cls:=.type "code",data:=.fields #[.str "_law_sorted_text" 511,.str "_law_sorted_text" 512,.str "/claim/cut.py" 513,.int 194 0,.int 1 0,.int 0 0,.int 0 0,.int 3 0,.ref 239,.bool true,.int 181 0,.ref 240,.none,.none,.none,.ref 241,.int 514 0,.int 194 0,.str "/claim/cut.py" 515]}) ::
(nat_lit 243,{cls:=.type "function",data:=.func ⟨"_law_sorted_text","_law_sorted_text",(fd9 30).1,.stmts (fd9 30).2.1,(fd9 30).2.2,3,[],.none,.none,.none,.str "law_on0064_01" 440,none,.ref 242,.none,0⟩}) ::
(nat_lit 244,{cls:=.type "tuple",data:=.seq #[]}) ::
(nat_lit 246,{cls:=.type "tuple",data:=.seq #[.str "_law_table" 520,.str "_law_codes" 521,.str "_law_before" 522,.str "_law_due" 523,.str "_law_many" 524,.str "_law_error" 525]}) ::
(nat_lit 247,{cls:=.type "tuple",data:=.seq #[]}) ::
(nat_lit 249,{cls:=.type "code",data:=.fields #[.str "_law_is_alike" 517,.str "_law_is_alike" 518,.str "/claim/cut.py" 519,.int 199 0,.int 3 0,.int 0 0,.int 0 0,.int 3 0,.ref 244,.bool true,.int 181 0,.ref 245,.none,.ref 246,.ref 247,.ref 248,.int 526 0,.int 199 0,.str "/claim/cut.py" 527]}) ::
(nat_lit 250,{cls:=.type "function",data:=.func ⟨"_law_is_alike","_law_is_alike",(fd9 31).1,.stmts (fd9 31).2.1,(fd9 31).2.2,3,[],.none,.none,.none,.str "law_on0064_01" 440,none,.ref 249,.none,0⟩}) ::
(nat_lit 251,{cls:=.type "tuple",data:=.seq #[]}) ::
(nat_lit 254,{cls:=.type "code",data:=.fields #[.str "law" 529,.str "law" 530,.str "/claim/cut.py" 531,.int 206 0,.int 1 0,.int 0 0,.int 0 0,.int 3 0,.ref 251,.bool true,.int 181 0,.ref 252,.none,.none,.none,.ref 253,.int 532 0,.int 206 0,.str "/claim/cut.py" 533]}) ::
(nat_lit 255,{cls:=.type "function",data:=.func ⟨"law","law",(fd9 32).1,.stmts (fd9 32).2.1,(fd9 32).2.2,3,[],.none,.none,.none,.str "law_on0064_01" 440,none,.ref 254,.none,0⟩}) :: []
noncomputable def as9 : List Addr:=[2,3,22,24,25,27,28,29,30,31,32,33,43,45,46,48,49,50,51,52,53,54,57,60,61,62,69,71,72,74,75,76,77,78,79,82,83,85,86,88,89,90,93,94,95,97,98,100,101,102,105,106,107,109,110,112,113,121,123,124,126,127,128,130,131,133,134,135,137,138,140,141,142,144,145,147,148,149,151,152,154,155,156,158,159,161,162,163,165,166,168,169,170,171,172,173,174,177,179,180,182,183,184,186,187,189,190,191,194,195,196,198,199,201,202,203,206,207,208,210,211,213,214,215,218,219,220,222,223,225,226,227,230,231,232,234,235,237,238,239,242,243,244,246,247,249,250,251,254,255]
theorem as9_ok : ∀ P, as9 = (hd.heap_39 P).map (·.1) := fun _ => by kernel_rfl
noncomputable def xo9 (o : Obj) : Option (Frag → Obj) := some fun _ => o
noncomputable def te9 : Option (Frag → Obj) := xo9 {cls := .type "tuple", data := .seq #[]}
noncomputable def fe9 : Option (Frag → Obj) := xo9 {cls := .none, data := .fields #[]}
noncomputable def tm9 : Option (Frag → Obj) := some fun
  | _ :: (_, o) :: _ => match o.data with
    | .func g => {cls := .none, data := .func {name := g.name, qualname := g.qualname, params := g.params, body := g.body, scope := g.scope, globals := 0, closure := [], defaults := .none, kwdefaults := .none}}
    | _ => o
  | _ => {cls := .none}
noncomputable def mg9 : List (Option (Frag → Obj)) → Frag → List Obj
  | [], _ => []
  | some g :: l, f => g f :: mg9 l f
  | none :: l, (_, o) :: f => o :: mg9 l f
  | none :: _, [] => []
noncomputable def ex9 (P : Params) : List (Option (Frag → Obj)):=[te9,fe9,xo9 {cls:=.type "code",data:=.fields #[.str "<module>" 182,.str "<module>" 183,.str "/claim/cut.py" 184,.int 1 0,.int 0 0,.int 0 0,.int 0 0,.int 0 0,.ref 11,.bool false,.int 181 0,.ref 12,.none,.none,.none,.none,.int 185 0,.int 1 0,.str "/claim/cut.py" 186]},xo9 {cls:=.type "frame",slots:=#[some (.ref 13),some (.ref 3),some (.ref 3),none,some (.str "__main__" 164),none,some (.ref 0)]},te9,xo9 {cls:=.type "builtin_function_or_method",data:=.fields #[.builtin "type.__prepare__",.type "type"]},xo9 {cls:=.type "dict",data:=.dict #[⟨PyData.keyHash P "__module__",.str "__module__" 196,.str "emacs.abbrevtable" 187⟩,⟨PyData.keyHash P "__qualname__",.str "__qualname__" 198,.str "Abbrev" 197⟩,⟨PyData.keyHash P "__firstlineno__",.str "__firstlineno__" 200,.int 2 199⟩,⟨PyData.keyHash P "__init__",.str "__init__" 210,.ref 28⟩,⟨PyData.keyHash P "__static_attributes__",.str "__static_attributes__" 215,.ref 29⟩] 5},te9,xo9 {cls:=.none,data:=.fields #[.int 4 0,.int 4 0,.ref 27]},xo9 {cls:=.type "code",data:=.fields #[.str "Abbrev" 191,.str "Abbrev" 192,.str "/claim/cut.py" 193,.int 2 0,.int 0 0,.int 0 0,.int 0 0,.int 0 0,.ref 18,.bool false,.int 181 0,.ref 19,.none,.none,.none,.none,.int 194 0,.int 2 0,.str "/claim/cut.py" 195]},xo9 {cls:=.type "frame",slots:=#[some (.ref 20),some (.ref 3),some (.ref 17),none,some (.str "emacs.abbrevtable" 187),none,some (.ref 0)]},none,fe9,none,none,tm9,none,none,none,none,none,none,none,xo9 {cls:=.type "super",data:=.fields #[.ref 31,.ref 31,.ref 31]},xo9 {cls:=.type "builtin_function_or_method",data:=.fields #[.builtin "object.__init_subclass__",.ref 31]},te9,xo9 {cls:=.type "builtin_function_or_method",data:=.fields #[.builtin "type.__prepare__",.type "type"]},xo9 {cls:=.type "dict",data:=.dict #[⟨PyData.keyHash P "__module__",.str "__module__" 230,.str "emacs.abbrevtable" 187⟩,⟨PyData.keyHash P "__qualname__",.str "__qualname__" 232,.str "AbbrevTable" 231⟩,⟨PyData.keyHash P "__firstlineno__",.str "__firstlineno__" 234,.int 9 233⟩,⟨PyData.keyHash P "__init__",.str "__init__" 243,.ref 49⟩,⟨PyData.keyHash P "__static_attributes__",.str "__static_attributes__" 248,.ref 50⟩] 5},te9,xo9 {cls:=.none,data:=.fields #[.int 11 0,.int 4 0,.ref 48]},xo9 {cls:=.type "code",data:=.fields #[.str "AbbrevTable" 225,.str "AbbrevTable" 226,.str "/claim/cut.py" 227,.int 9 0,.int 0 0,.int 0 0,.int 0 0,.int 0 0,.ref 39,.bool false,.int 181 0,.ref 40,.none,.none,.none,.none,.int 228 0,.int 9 0,.str "/claim/cut.py" 229]},xo9 {cls:=.type "frame",slots:=#[some (.ref 41),some (.ref 3),some (.ref 38),none,some (.str "emacs.abbrevtable" 187),none,some (.ref 0)]},none,fe9,none,none,tm9,none,none,none,none,none,none,none,xo9 {cls:=.type "super",data:=.fields #[.ref 52,.ref 52,.ref 52]},xo9 {cls:=.type "builtin_function_or_method",data:=.fields #[.builtin "object.__init_subclass__",.ref 52]},none,fe9,tm9,none,none,none,xo9 {cls:=.type "builtin_function_or_method",data:=.fields #[.builtin "type.__prepare__",.type "type"]},xo9 {cls:=.type "dict",data:=.dict #[⟨PyData.keyHash P "__module__",.str "__module__" 271,.str "emacs.errors" 262⟩,⟨PyData.keyHash P "__qualname__",.str "__qualname__" 273,.str "LispSignal" 272⟩,⟨PyData.keyHash P "__firstlineno__",.str "__firstlineno__" 275,.int 19 274⟩,⟨PyData.keyHash P "__init__",.str "__init__" 284,.ref 75⟩,⟨PyData.keyHash P "__static_attributes__",.str "__static_attributes__" 287,.ref 76⟩] 5},te9,xo9 {cls:=.none,data:=.fields #[.int 21 0,.int 4 0,.ref 74]},xo9 {cls:=.type "code",data:=.fields #[.str "LispSignal" 266,.str "LispSignal" 267,.str "/claim/cut.py" 268,.int 19 0,.int 0 0,.int 0 0,.int 0 0,.int 0 0,.ref 65,.bool false,.int 181 0,.ref 66,.none,.none,.none,.none,.int 269 0,.int 19 0,.str "/claim/cut.py" 270]},xo9 {cls:=.type "frame",slots:=#[some (.ref 67),some (.ref 3),some (.ref 64),none,some (.str "emacs.errors" 262),none,some (.ref 0)]},none,fe9,none,none,tm9,none,none,none,none,none,none,xo9 {cls:=.type "super",data:=.fields #[.ref 78,.ref 78,.ref 78]},xo9 {cls:=.type "builtin_function_or_method",data:=.fields #[.builtin "object.__init_subclass__",.ref 78]},none,none,fe9,none,none,tm9,none,none,none,fe9,tm9,none,none,none,fe9,none,none,tm9,none,none,none,fe9,tm9,none,none,none,fe9,none,none,tm9,none,none,te9,xo9 {cls:=.type "builtin_function_or_method",data:=.fields #[.builtin "type.__prepare__",.type "type"]},xo9 {cls:=.type "dict",data:=.dict #[⟨PyData.keyHash P "__module__",.str "__module__" 354,.str "emacs.abbrevtext" 295⟩,⟨PyData.keyHash P "__qualname__",.str "__qualname__" 356,.str "Reading" 355⟩,⟨PyData.keyHash P "__firstlineno__",.str "__firstlineno__" 358,.int 55 357⟩,⟨PyData.keyHash P "__init__",.str "__init__" 366,.ref 127⟩,⟨PyData.keyHash P "code",.str "code" 373,.ref 134⟩,⟨PyData.keyHash P "take",.str "take" 381,.ref 141⟩,⟨PyData.keyHash P "text",.str "text" 389,.ref 148⟩,⟨PyData.keyHash P "escaped",.str "escaped" 396,.ref 155⟩,⟨PyData.keyHash P "number",.str "number" 405,.ref 162⟩,⟨PyData.keyHash P "entry",.str "entry" 418,.ref 169⟩,⟨PyData.keyHash P "__static_attributes__",.str "__static_attributes__" 421,.ref 170⟩] 11},te9,xo9 {cls:=.none,data:=.fields #[.int 57 0,.int 4 0,.ref 126,.int 61 0,.int 4 0,.ref 133,.int 64 0,.int 4 0,.ref 140,.int 69 0,.int 4 0,.ref 147,.int 84 0,.int 4 0,.ref 154,.int 91 0,.int 4 0,.ref 161,.int 101 0,.int 4 0,.ref 168]},xo9 {cls:=.type "code",data:=.fields #[.str "Reading" 349,.str "Reading" 350,.str "/claim/cut.py" 351,.int 55 0,.int 0 0,.int 0 0,.int 0 0,.int 0 0,.ref 117,.bool false,.int 181 0,.ref 118,.none,.none,.none,.none,.int 352 0,.int 55 0,.str "/claim/cut.py" 353]},xo9 {cls:=.type "frame",slots:=#[some (.ref 119),some (.ref 3),some (.ref 116),none,some (.str "emacs.abbrevtext" 295),none,some (.ref 0)]},none,fe9,none,none,tm9,none,none,none,fe9,none,none,tm9,none,none,none,fe9,none,none,tm9,none,none,none,fe9,none,none,tm9,none,none,none,fe9,none,none,tm9,none,none,none,fe9,none,none,tm9,none,none,none,fe9,none,none,tm9,none,none,none,none,none,none,none,xo9 {cls:=.type "super",data:=.fields #[.ref 172,.ref 172,.ref 172]},xo9 {cls:=.type "builtin_function_or_method",data:=.fields #[.builtin "object.__init_subclass__",.ref 172]},none,fe9,none,none,tm9,none,none,none,fe9,none,none,tm9,none,none,none,fe9,tm9,none,none,none,fe9,none,none,tm9,none,none,none,fe9,tm9,none,none,none,fe9,none,none,tm9,none,none,none,fe9,tm9,none,none,none,fe9,none,none,tm9,none,none,none,fe9,tm9,none,none,none,fe9,none,none,tm9,none,none,none,fe9,tm9,none,none,none,fe9,none,none,tm9,none,none,none,fe9,tm9,none,none]
noncomputable def al9 (P : Params) : List Obj := (boot_heap P).objs.toList ++ mg9 (ex9 P) ((hd.heap_39 P).drop 2)
noncomputable def of9 (P : Params) (i : Nat) : Obj := match (hd.heap_39 P).drop i with
  | (_, o) :: _ => o
  | [] => {cls := .none}
noncomputable def ln9 : List Value:=[.int 2 0,.int 0 0,.ref 20,.int 9 0,.int 0 0,.ref 41,.int 16 0,.int 0 0,.ref 60,.int 19 0,.int 0 0,.ref 67,.int 31 0,.int 0 0,.ref 88,.int 41 0,.int 0 0,.ref 93,.int 46 0,.int 0 0,.ref 100,.int 48 0,.int 0 0,.ref 105,.int 53 0,.int 0 0,.ref 112,.int 55 0,.int 0 0,.ref 119,.int 115 0,.int 0 0,.ref 182,.int 124 0,.int 0 0,.ref 189,.int 133 0,.int 0 0,.ref 194,.int 138 0,.int 0 0,.ref 201,.int 140 0,.int 0 0,.ref 206,.int 142 0,.int 0 0,.ref 213,.int 147 0,.int 0 0,.ref 218,.int 151 0,.int 0 0,.ref 225,.int 167 0,.int 0 0,.ref 230,.int 185 0,.int 0 0,.ref 237,.int 194 0,.int 0 0,.ref 242,.int 199 0,.int 0 0,.ref 249,.int 206 0,.int 0 0,.ref 254]
noncomputable def de9 (nm : Value) : Obj → List DictEntry
  | ⟨_, _, .dict es _, _⟩ => (match es.toList with
    | e :: l => ⟨e.hash, e.key, nm⟩ :: l
    | [] => [])
  | _ => []
noncomputable def me9 (P : Params) (m : Nat) (nm : Value) : Obj := {cls := .type "dict", data := .dict ⟨(de9 nm (of9 P 1)).take m⟩ m}
noncomputable def hp9 (n m k : Nat) (nm : Value) (o2 : Obj) (P : Params) : Heap := ⟨⟨((((al9 P).take n).set 2 o2).set 3 (me9 P m nm)).set 12 {cls := .none, data := .fields ⟨ln9.take k⟩}⟩, {}⟩
noncomputable abbrev pr9 : Program := PySem.Challenge.rw_on0064_01.row.prog
noncomputable def ev9 : Env := {scope := pr9.main.scope, locals := mainNs, globals := mainNs, cells := [], code := .ref 13, frame := some 14}
noncomputable def bd9 (a n : Nat) : List Stmt := ((behindTheImports pr9).drop a).take n
noncomputable def cd9 : Code := .body (behindTheImports pr9) ev9
noncomputable abbrev qq9 : Pos := ⟨0, 0, 0, 0⟩
noncomputable def hp9_0 : Params → Heap := fun P => hp9 15 9 0 (.str "__main__" 164) (boot_o_2 P) P
noncomputable def hp9_3 : Params → Heap := fun P => hp9 82 13 12 (.str "emacs.errors" 262) (of9 P 0) P
noncomputable def hp9_4 : Params → Heap := fun P => hp9 114 24 27 (.str "emacs.abbrevtext" 295) (of9 P 0) P
noncomputable def hp9_5 : Params → Heap := fun P => hp9 177 25 30 (.str "emacs.abbrevtext" 295) (of9 P 0) P
noncomputable def hp9_6 : Params → Heap := fun P => hp9 256 38 69 (.str "law_on0064_01" 440) (of9 P 0) P
set_option maxHeartbeats 0
theorem eb9 : bd9 0 6 ++ (bd9 6 12 ++ (bd9 18 1 ++ (bd9 19 14 ++ []))) = behindTheImports pr9 := by kernel_rfl
theorem op9 : ∀ w : World, (fencedOpening treeTable pr9 w 3610).map (fun s => (s.heap, s.gens, s.drawn, s.toks)) = some (boot_heap w.params, Array.mk [], boot_drawn, boot_toks) := boot_open (by kernel_rfl) (by decide +kernel) (fun s => by kernel_rfl)
theorem sz9 (w : World) : ((boot_heap w.params).isNs mainGlobals && (Array.mk [] : Array GenState).size == 0, (boot_heap w.params).objs.size, (boot_heap w.params).nsMap mainGlobals "__annotations__") = (true, 11, some (.ref 6)) := by kernel_rfl
noncomputable abbrev sg9 (w : World) (n : Nat) (s : Shared) (t : Thread) := segRun treeTable pr9 w 11 (some (.ref 6)) 1 n s t
theorem pp9 (w : World) (os : OsState) : topGo treeTable pr9 w 11 (some (.ref 6)) 12 ⟨boot_heap w.params, Array.mk [], boot_drawn, boot_toks, os⟩ (topStub pr9) = some (⟨hp9_0 w.params, #[], {}, 187, os⟩, ⟨denote treeTable cd9, cd9, qq9, [topFrame qq9]⟩) := by kernel_rfl
theorem bl9 (w : World) (os : OsState) : sg9 w 1 ⟨hp9_0 w.params, #[], {}, 187, os⟩ (blockOf (behindTheImports pr9) ev9 cd9 qq9 [topFrame qq9]) = some (.next, ⟨hp9_0 w.params, #[], {}, 187, os⟩, cd9, qq9) := by kernel_rfl
theorem pc9_0 (w : World) (os : OsState) : sg9 w 800 ⟨hp9_0 w.params, #[], {}, 187, os⟩ (piecesOf (bd9 0 6) ev9 cd9 qq9 [topFrame qq9]) = some (.next, ⟨hp9_3 w.params, #[], {}, 295, os⟩, cd9, ⟨19, 0, 23, 24⟩) := by kernel_rfl
theorem pc9_1 (w : World) (os : OsState) : sg9 w 300 ⟨hp9_3 w.params, #[], {}, 295, os⟩ (piecesOf (bd9 6 12) ev9 cd9 ⟨19, 0, 23, 24⟩ [topFrame qq9]) = some (.next, ⟨hp9_4 w.params, #[], {}, 347, os⟩, cd9, ⟨53, 0, 54, 59⟩) := by kernel_rfl
theorem pc9_2 (w : World) (os : OsState) : sg9 w 500 ⟨hp9_4 w.params, #[], {}, 347, os⟩ (piecesOf (bd9 18 1) ev9 cd9 ⟨53, 0, 54, 59⟩ [topFrame qq9]) = some (.next, ⟨hp9_5 w.params, #[], {}, 429, os⟩, cd9, ⟨55, 0, 114, 20⟩) := by kernel_rfl
theorem pc9_3 (w : World) (os : OsState) : sg9 w 500 ⟨hp9_5 w.params, #[], {}, 429, os⟩ (piecesOf (bd9 19 14) ev9 cd9 ⟨55, 0, 114, 20⟩ [topFrame qq9]) = some (.next, ⟨hp9_6 w.params, #[], {}, 535, os⟩, cd9, ⟨206, 0, 223, 248⟩) := by kernel_rfl
theorem fi9 (w : World) (os : OsState) : topRun treeTable pr9 w 11 (some (.ref 6)) 2 ⟨hp9_6 w.params, #[], {}, 535, os⟩ (restOf [] ev9 cd9 ⟨206, 0, 223, 248⟩ [topFrame qq9]) = some ⟨hp9_6 w.params, #[], {}, 535, os⟩ := by kernel_rfl
theorem lk1 (w : World) (os : OsState) : (staticsOk (importedModules pr9.main.body) (boot_heap w.params) (hp9_6 w.params) && namesBound pr9 (hp9_6 w.params) && gensDone ⟨hp9_6 w.params, #[], {}, 535, os⟩ && laidKept (boot_heap w.params) (hp9_6 w.params)) = true := by kernel_rfl
theorem lk2 (w : World) (os : OsState) : openSeen hd.view_39 [Str.ofString "EXACT"] (importedModules pr9.main.body) (fun s => xlAt hd.view_39 [] s && recOk (RowW.records (OpenRow.toRowW PySem.Challenge.rw_on0064_01.row)) s) true ⟨hp9_6 w.params, #[], {}, 535, os⟩ = openGood hd.view_39 [Str.ofString "EXACT"] := by kernel_rfl
theorem lk3 (w : World) (os : OsState) : Hook.obs (kHook hd.heap_39 as9 as9_ok) ⟨hp9_6 w.params, #[], {}, 535, os⟩ = Hook.val (kHook hd.heap_39 as9 as9_ok) w := by kernel_rfl
theorem left9 : LeftO PySem.Challenge.rw_on0064_01.row.prog hd.view_39 [Str.ofString "EXACT"] (fun s => xlAt hd.view_39 [] s && recOk (RowW.records (OpenRow.toRowW PySem.Challenge.rw_on0064_01.row)) s) (Hook.obs (kHook hd.heap_39 as9 as9_ok)) (Hook.val (kHook hd.heap_39 as9 as9_ok)) 3610 :=
  LeftO.of_pieces (H₁ := hp9_6) op9 sz9
    (fun w os => go_top (pp9 w os) (piece_block (b := behindTheImports pr9) (env := ev9) (bl9 w os) (eb9 ▸ piece_app (pc9_0 w os) (piece_app (pc9_1 w os) (piece_app (pc9_2 w os) (piece_app (pc9_3 w os) (fi9 w os)))))))
    (by decide +kernel) (fun w => funext fun os => Prod.ext (lk1 w os) (Prod.ext (lk2 w os) (lk3 w os)))
noncomputable abbrev lw9 := PySem.Challenge.rw_on0064_01
theorem sa1 : namesResolve lw9.row.prog = true := by kernel_rfl
theorem sa2 : noRoadLSs { strict := !(importedModules lw9.row.prog.main.body).all cThrough.contains, foot := none, bare := (["vars", "dir", "locals"] : List Str).filter (readsOut lw9.row.prog lw9.row.prog.main.body) } lw9.row.prog.main.body = true := by kernel_rfl
theorem sa3 : namesMeet lw9.row.prog lw9.row.prog.main.body (fun _ n => attrL n) = true := by kernel_rfl
theorem sa4 : noRoadLSs { strict := true, foot := some lw9.bound', writes := lw9.writes, may := lw9.may } lw9.footing = true := by kernel_rfl
theorem sa5 : lw9.bound'.all (fun n => !builtinNamed n || lw9.about == [n] || !lw9.reads n) = true := by kernel_rfl
theorem sa6 : namesMeet lw9.prog lw9.footing (fun sc n => sc.kind == .module || sc.names.lookup n != some .globalExplicit) = true := by kernel_rfl
theorem sa7 : namesMeet lw9.prog lw9.above (fun _ n => !lw9.own.contains n) = true := by kernel_rfl
theorem said9 : OpenLaw.wellSaid PySem.Challenge.rw_on0064_01 = true := by
  delta OpenLaw.wellSaid OpenRow.wellSaid OpenRow.partSaid looksOpen
  repeat' (with_reducible refine look_both ?_ ?_)
  all_goals (first | with_reducible exact sa1 | with_reducible exact sa2 | with_reducible exact sa3 | with_reducible exact sa4 | with_reducible exact sa5 | with_reducible exact sa6 | with_reducible exact sa7 | kernel_rfl)
end

section
noncomputable def Fill (_ : Params → Frag) (_ : OpenLaw) : Prop := True

noncomputable abbrev TopH (mean : ExcName → Option Value) (mg mb : Str → Option Value) (h : Heap) : Prop :=
  Top hd.view_39 (looseW hd.view_39 [Str.ofString "EXACT"]) mean mg mb h

structure Sx (w : World) (mean : ExcName → Option Value) (mg mb : Str → Option Value) (b : Heap) : Prop where
  X : (hd.heap_39 w.params).In b
  T : TopH mean mg mb b

theorem Sx.keeps {w mean mg mb} {b b' : Heap} (S : Sx w mean mg mb b) (k : b.StaysIn b') : Sx w mean mg mb b' :=
  ⟨S.X.keeps k, S.T.keeps k⟩

noncomputable def Kp (W : List Addr) (h h' : Heap) : Prop := h.objs.size ≤ h'.objs.size ∧ ∀ a o, a ∉ W → h.get? a = some o → h'.get? a = some o

theorem Kp.refl (W : List Addr) (h : Heap) : Kp W h h := ⟨Nat.le_refl _, fun _ _ _ e => e⟩
theorem Kp.trans {W : List Addr} {h h' h'' : Heap} (a : Kp W h h') (b : Kp W h' h'') : Kp W h h'' :=
  ⟨Nat.le_trans a.1 b.1, fun x o n e => b.2 x o n (a.2 x o n e)⟩

theorem none_of_ge {h : Heap} {a : Addr} (g : h.objs.size ≤ a) : h.get? a = none := Heap.get?_none_of_le g

section
variable {h₀ h h' : Heap} {L : Addr} {m : Str → Option Value} {news : List (Addr × Obj)}
theorem Fr.kp {W : List Addr} (F : Fr h₀ L h m) (k : Kp W h h') (hL : L ∉ W) (hW : ∀ a ∈ W, h₀.get? a = none) : Fr h₀ L h' m := by
  obtain ⟨oL, a1, a2, e, a3⟩ := F.ns
  refine ⟨⟨oL, a1, a2, k.2 _ _ hL e, a3⟩, fun b o e => k.2 _ _ (fun hb => ?_) (F.keep b o e), F.above⟩
  rw [hW b hb] at e; cases e
theorem Fr.kp0 (F : Fr h₀ L h m) (k : Kp [] h h') : Fr h₀ L h' m := Fr.kp F k (by simp) (by simp)
theorem News.kp0 (N : News h₀ L h news) (k : Kp [] h h') : News h₀ L h' news := fun p hp => ⟨k.2 _ _ (by simp) (N p hp).1, (N p hp).2⟩
theorem News.add {a : Addr} {o : Obj} (F : Fr h₀ L h m) (k : Kp [] h h') (N : News h₀ L h' news) (fr : h.get? a = none) (e : h'.get? a = some o) : News h₀ L h' ((a, o) :: news) := by
  intro p hp
  rcases List.mem_cons.mp hp with rfl | hp
  · refine ⟨e, fun q => ?_, ?_⟩
    · obtain ⟨oL, _, _, hL, _⟩ := F.ns
      dsimp only at q; rw [q] at fr; rw [fr] at hL; cases hL
    · cases q : h₀.get? a with
      | none => rfl
      | some o' => rw [F.keep _ _ q] at fr; cases fr
  · exact N p hp
end

section
variable {w : World} {mean : ExcName → Option Value} {mg mb : Str → Option Value} {b : Heap} {s : Shared} {A : Around} {R : Result → Shared → Prop}
  {name qual : Str} {params : Arguments} {body : List Stmt} {scope : Scope} {dV kV doc pm cdv ct oc : Value} {an od : Option Addr} {osl : Array (Option Value)} {f : Addr} {args : Args} {binds : List (Str × Value)}

theorem hide_stays {W : List Addr} {h : Heap} (hb : b.StaysIn h) (hW : ∀ a ∈ W, b.get? a = none) : b.StaysIn (hideAll h W) :=
  fun a o e => hideAll_get _ (hb a o e) fun q => by rw [hW a q] at e; cases e

theorem enter (S : Sx w mean mg mb b) (hb : b.StaysIn s.heap) (W : List Addr) (hW : ∀ a ∈ W, b.get? a = none)
    (ho : (hd.heap_39 w.params).lookup f = some ⟨oc, od, .func (fnOf name qual params body scope dV kV doc pm an cdv ct), osl⟩) (hcd : codeIn (hd.heap_39 w.params) cdv qual = true) (hroom : A.depth < recursionLimit)
    (hbind : BindsTo s (fnOf name qual params body scope dV kV doc pm an cdv ct) args binds) (hloc : ∀ y ∈ binds, scope.names.lookup y.1 = some .local)
    (h : ∀ g L h₁, Sx w mean mg mb g → g = hideAll s.heap W → L = s.heap.objs.size → Fr g L h₁ (fun y => binds.reverse.lookup y) → Kp [] s.heap h₁ →
      let env9 := envOf qual scope L f cdv
      let Q9 := fun (fl : Flow) (s' : Shared) => R (.ok (.ret (match fl with | .ret v => v | _ => .none))) s'
      let E9 := fun (e : Value) (s' : Shared) => wpAny (model PySem.Challenge.rw_on0064_01.row.prog w) (A.deeper env9) (leaving env9 e) (fun _ s'' => R (.error e) s'') (fun e' s'' => R (.error e') s'') s'
      wpAny (model PySem.Challenge.rw_on0064_01.row.prog w) (A.deeper env9) (execs body env9) Q9 E9 { s with heap := h₁, toks := s.toks + binds.length })
    (hcell : ∀ x ∈ scope.names, x.2 ≠ .cell) (hco : scope.isCoroutine = false := by rfl) (hgen : scope.isGenerator = false := by rfl) (hk : scope.kind = .function := by rfl) :
    codeAny (model PySem.Challenge.rw_on0064_01.row.prog w) A (.call (.ref f) args) R s := by
  have X : (hd.heap_39 w.params).In s.heap := S.X.keeps hb
  refine codeAny_call_def (fd := fnOf name qual params body scope dV kV doc pm an cdv ct) (body := body) (binds := binds) hroom (X _ _ ho) rfl (S.T.nolimit.keeps hb) (codeRec_of X hcd) rfl hbind hcell hloc (fun h₁ hns hk₁ => ?_) hco hgen hk
  refine h (hideAll s.heap W) s.heap.objs.size h₁ (S.keeps (hide_stays hb hW)) rfl rfl ⟨hns, fun b o e => hk₁ b o (of_hideAll _ e), Nat.le_of_eq (hideAll_size _ _)⟩ ⟨?_, fun a o _ e => hk₁ a o e⟩
  exact Nat.le_of_lt hns.lt
end

theorem news_of {s : Shared} {W : List Addr} {h₁ : Heap} {led : List (Addr × Obj)} (k : Kp [] s.heap h₁) (e : ∀ p ∈ led, p.1 ∈ W ∧ s.heap.get? p.1 = some p.2) :
    News (hideAll s.heap W) s.heap.objs.size h₁ led := fun p hp =>
  ⟨k.2 _ _ (by simp) (e p hp).2, Nat.ne_of_lt (Heap.lt_size (e p hp).2), hideAll_none _ (e p hp).1⟩

theorem kp_of {s : Shared} {W : List Addr} {h' : Heap} {m : Str → Option Value} (F : Fr (hideAll s.heap W) s.heap.objs.size h' m) : Kp W s.heap h' :=
  ⟨Nat.le_of_lt F.ns.lt, fun a o n e => F.keep a o (hideAll_get _ e n)⟩
theorem fresh_of {s : Shared} {W : List Addr} {h' : Heap} {a : Addr} {o : Obj} {news : List (Addr × Obj)} (N : News (hideAll s.heap W) s.heap.objs.size h' news) (hm : (a, o) ∈ news) (hn : a ∉ W) : s.heap.get? a = none := by
  cases q : s.heap.get? a with
  | none => rfl
  | some o' => have := hideAll_get W q hn; rw [(N _ hm).2.2] at this; cases this


noncomputable def WEnd (I : Nat → Shared → Prop) (n : Nat) (s : Shared) : Prop := ∃ m, m < n ∧ I m s
noncomputable def WPost (I : Nat → Shared → Prop) (n : Nat) (Q : Flow → Shared → Prop) (f : Flow) (s : Shared) : Prop :=
  match f with
  | .ret v => Q (.ret v) s
  | .brk => Q .next s
  | .next => WEnd I n s
  | .cont => WEnd I n s

section
variable {prog : Program} {w : World} {A : Around} {env : Env} {s : Shared} {Q : Flow → Shared → Prop} {E : Value → Shared → Prop}
theorem while_rule {test : Expr} {body : List Stmt} {pos : Pos} (I : Nat → Shared → Prop) (n : Nat) (h : I n s)
    (turn : ∀ n s, I n s → wpAny (model prog w) A (isTrue test env (eval test env)) (fun b s₂ => if b = true then wpAny (model prog w) A (execs body env) (WPost I n Q) E s₂ else Q .next s₂) E s)
    (hE : PassesOwn (model prog w) A env E := by passes_own) :
    wpAny (model prog w) A (exec (.While test body [] pos) env) Q E s := by
  refine wpAny_While (codeAny_whileLoop I (fun n s hI => ?_) n h)
  refine wpAny_passesOwn hE (wpAny_mono (turn n s hI) (fun b s₂ hb => ?_) fun _ _ e => e)
  cases b with
  | false => exact wpAny_execs_nil hb
  | true =>
    refine wpAny_passesOwn hE (wpAny_mono hb (fun f s₃ h₃ => ?_) fun _ _ e => e)
    cases f <;> exact h₃
end
noncomputable def Stop (P : Prop) : Prop := P
theorem Stop.go {P : Prop} (h : Stop P) : P := h
theorem kp_all {W : List Addr} {h h' : Heap} (k : Kp W h h') (e : ∀ a ∈ W, ∀ o, h.get? a = some o → h'.get? a = some o) : Kp [] h h' :=
  ⟨k.1, fun a o _ q => by
    by_cases ha : a ∈ W
    · exact e a ha o q
    · exact k.2 a o ha q⟩
noncomputable def IntsAt (h : Heap) (a : Addr) (xs : List Int) : Prop := ∃ vs n, h.get? a = some (listOf (List.toArray vs) n) ∧ IntsAre vs xs
theorem IntsAt.kp {h h' : Heap} {a : Addr} {xs : List Int} {W : List Addr} (x : IntsAt h a xs) (k : Kp W h h') (ha : a ∉ W) : IntsAt h' a xs :=
  let ⟨vs, n, e, hi⟩ := x; ⟨vs, n, k.2 _ _ ha e, hi⟩
theorem IntsAt.kp0 {h h' : Heap} {a : Addr} {xs : List Int} (x : IntsAt h a xs) (k : Kp [] h h') : IntsAt h' a xs := x.kp k (by simp)
theorem IntsAt.isList {h : Heap} {a : Addr} {vs : List Value} {n : Nat} (e : h.get? a = some (listOf (List.toArray vs) n)) : h.IsList a vs.toArray := ⟨_, e, rfl, n, rfl⟩
theorem News.sub {h₀ h : Heap} {L : Addr} {news news' : List (Addr × Obj)} (N : News h₀ L h news) (e : ∀ p ∈ news', p ∈ news) : News h₀ L h news' := fun p hp => N p (e p hp)
noncomputable abbrev tupOf (vs : List Value) (n : Nat) : Obj := { cls := .type "tuple", data := .seq (List.toArray vs) n }
end

section
theorem andP1 {a b : Prop} (h : a ∧ b) : a := h.1
theorem andP2 {a b c : Prop} (h : a ∧ b ∧ c) : b := h.2.1
theorem andP3 {a b c d : Prop} (h : a ∧ b ∧ c ∧ d) : c := h.2.2.1
theorem andP4 {a b c d e : Prop} (h : a ∧ b ∧ c ∧ d ∧ e) : d := h.2.2.2.1
theorem andP5 {a b c d e f : Prop} (h : a ∧ b ∧ c ∧ d ∧ e ∧ f) : e := h.2.2.2.2.1
theorem andP6 {a b c d e f g : Prop} (h : a ∧ b ∧ c ∧ d ∧ e ∧ f ∧ g) : f := h.2.2.2.2.2.1
theorem andP7 {a b c d e f g i : Prop} (h : a ∧ b ∧ c ∧ d ∧ e ∧ f ∧ g ∧ i) : g := h.2.2.2.2.2.2.1
theorem andL2 {a b : Prop} (h : a ∧ b) : b := h.2
theorem andL3 {a b c : Prop} (h : a ∧ b ∧ c) : c := h.2.2
theorem andL4 {a b c d : Prop} (h : a ∧ b ∧ c ∧ d) : d := h.2.2.2
theorem andL5 {a b c d e : Prop} (h : a ∧ b ∧ c ∧ d ∧ e) : e := h.2.2.2.2
theorem andL6 {a b c d e f : Prop} (h : a ∧ b ∧ c ∧ d ∧ e ∧ f) : f := h.2.2.2.2.2
theorem andL7 {a b c d e f g : Prop} (h : a ∧ b ∧ c ∧ d ∧ e ∧ f ∧ g) : g := h.2.2.2.2.2.2
theorem roomS {d a b L : Nat} (h : d + a < L) (e : Nat.ble (b + 1) a = true) : d + 1 + b < L :=
  Nat.lt_of_le_of_lt (by rw [Nat.add_assoc, Nat.add_comm 1]; exact Nat.add_le_add_left (Nat.le_of_ble_eq_true e) d) h
theorem roomT {d a b L : Nat} (h : d + a < L) (e : Nat.ble b a = true) : d + b < L := Nat.lt_of_le_of_lt (Nat.add_le_add_left (Nat.le_of_ble_eq_true e) d) h
theorem roomU {u a b k : Nat} (h : u ≤ a) (e : Nat.ble (a + k) b = true) : u + k ≤ b := Nat.le_trans (Nat.add_le_add_right h k) (Nat.le_of_ble_eq_true e)
theorem numLt' {x a b : Nat} (h : x < a) (e : Nat.ble a b = true) : x < b := Nat.lt_of_lt_of_le h (Nat.le_of_ble_eq_true e)
theorem spLen0 {a b c : Nat} (h : a ≤ b) : min a c + (c - b) ≤ c := by
  rcases Nat.le_total c b with q | q
  · rw [Nat.sub_eq_zero_of_le q]; exact Nat.min_le_right _ _
  · exact Nat.le_trans (Nat.add_le_add_right (Nat.le_trans (Nat.min_le_left _ _) h) _) (Nat.le_of_eq (Nat.add_sub_of_le q))
theorem spLen {da x : Int} {c z : Nat} (_h0 : 0 ≤ da) (hx : 0 ≤ x) (hc : c ≤ 105) (hz : z ≤ 1) : min da.toNat c + z + (c - (da + x).toNat) ≤ 120 := by
  have h := spLen0 (a := da.toNat) (b := (da + x).toNat) (c := c) (Int.toNat_le_toNat (Int.le_add_of_nonneg_right hx))
  omega
theorem sumB {a n : Nat} (h : a ≤ 1 * n) (k : n ≤ 500) : a + n ≤ 1048576 := by omega
theorem laBd {y b t n v r : Nat} (h1 : y = b) (h2 : b ≤ 35 * t) (h3 : t ≤ n) (h4 : n ≤ 3) (h5 : v = r) (h6 : r ≤ 35) : y + v ≤ 1000000 := by omega
theorem laE {n : Nat} {d : Int} (h : n = d.toNat) (h0 : 0 ≤ d) (h1 : d < 4) : n ≤ 3 := by omega
theorem laA {a e i : Nat} {d : Int} (h : a = e) (h2 : e = i) (h3 : i < d.toNat) (h0 : 0 ≤ d) (h1 : d < 4) : a ≤ 16777216 := by omega
theorem stS {y f v r : Nat} (h1 : y = f) (h2 : f ≤ 5000 * 64) (h3 : v = r) (h4 : r ≤ 5000) : y + v ≤ 1000000 := by omega
theorem room0 {d a L : Nat} (h : d + a < L) : d < L := Nat.lt_of_le_of_lt (Nat.le_add_right d a) h
theorem subS1 {n p : Nat} (h : p < n) : n - (p + 1) < n - p := by omega
theorem subS2 {n p : Nat} (h : p + 1 < n) : n - (p + 2) < n - p := by omega
theorem subP {n p q : Nat} (h : p < q) (k : p < n) : n - q < n - p := by omega
theorem subB {n p : Nat} (h : p ≤ n) : ((p : Nat) : Int) = ((n - (n - p) : Nat) : Int) := by omega
theorem subB1 {n p : Nat} (h : (p : Int) < (n : Int)) : (p : Int) + 1 = ((n - (n - (p + 1)) : Nat) : Int) := by omega
theorem subB2 {n p : Nat} (h : p < n) : (p : Int) + 1 = ((n - (n - (p + 1)) : Nat) : Int) := by omega
theorem subN {n p : Nat} (h : p ≤ n) : n - (n - p) = p := by omega
theorem addS {i k n : Nat} (h : i + (k + 1) = n) : i + 1 + k = n := by omega
theorem castLt {p n : Nat} (h : (p : Int) < (n : Int)) : p < n := Int.ofNat_lt.mp h
theorem castLt1 {p n : Nat} (h : (p : Int) < (n : Int)) : p + 1 ≤ n := Int.ofNat_lt.mp h
theorem castLe {p n : Nat} (h : ¬ (p : Int) < (n : Int)) : n ≤ p := by omega
theorem castSub {n r : Nat} : ((n - r : Nat) : Int) ≤ (n : Int) := by omega
theorem castUp {p n : Nat} (h : p < n) : (p : Int) < (n : Int) := Int.ofNat_lt.mpr h
theorem castUpL {p n : Nat} (h : p ≤ n) : (p : Int) ≤ (n : Int) := Int.ofNat_le.mpr h
theorem eqLt {x y b : Nat} (e : x = y) (h : y < b) : x < b := e ▸ h
theorem eqNumLt {x y a b : Nat} (e : x = y) (h : y < a) (k : Nat.ble a b = true) : x < b := e ▸ numLt' h k
theorem eqNumLL {x y a b : Nat} (e : x = y) (h : y < a) (k : Nat.ble a b = true) : x ≤ b := Nat.le_of_lt (eqNumLt e h k)
theorem eqNumLe {x y a b : Nat} (e : x = y) (h : y ≤ a) (k : Nat.ble a b = true) : x ≤ b := e ▸ Nat.le_trans h (Nat.le_of_ble_eq_true k)
theorem leNum {x y a b : Nat} (e : x ≤ y) (h : y < a) (k : Nat.ble a b = true) : x ≤ b := Nat.le_trans e (Nat.le_of_lt (numLt' h k))
theorem sub2 {n r q : Nat} : n - r ≤ n := Nat.sub_le n r
theorem roomC {u a k j : Nat} (h : u ≤ a) (e : Nat.ble (a + k + j + 1) 9900 = true) : u + k + j < cLine := by
  rw [cLine_is]; exact Nat.lt_of_le_of_lt (Nat.add_le_add_right (Nat.add_le_add_right h k) j) (Nat.lt_of_succ_le (Nat.le_of_ble_eq_true e))
theorem roomC2 {u a k : Nat} (h : u ≤ a) (e : Nat.ble (a + k + 1) 9900 = true) : u + k < cLine := by
  rw [cLine_is]; exact Nat.lt_of_le_of_lt (Nat.add_le_add_right h k) (Nat.lt_of_succ_le (Nat.le_of_ble_eq_true e))
theorem subBl {cs : List Int} {p : Nat} (h : p ≤ cs.length) : (p : Int) = ((cs.length - (cs.drop p).length : Nat) : Int) := by rw [List.length_drop]; exact subB h
theorem subBl1 {cs : List Int} {p : Nat} (h : p < cs.length) : (p : Int) + 1 = ((cs.length - (cs.drop (p + 1)).length : Nat) : Int) := by rw [List.length_drop]; exact subB2 h
theorem numLt {x a b : Nat} (h : x < a) (e : Nat.ble a b = true) : x < b := Nat.lt_of_lt_of_le h (Nat.le_of_ble_eq_true e)
theorem numLe {x a b : Nat} (h : x ≤ a) (e : Nat.ble a b = true) : x ≤ b := Nat.le_trans h (Nat.le_of_ble_eq_true e)
theorem numLL {x a b : Nat} (h : x < a) (e : Nat.ble a b = true) : x ≤ b := Nat.le_of_lt (numLt h e)
theorem numLS {x a b : Nat} (h : x ≤ a) (e : Nat.ble (a + 1) b = true) : x < b := Nat.lt_of_le_of_lt h (Nat.le_of_ble_eq_true e)
noncomputable def LtAll (d : Nat) : List (Addr × Obj) → Prop
  | [] => True
  | [p] => @LT.lt Nat _ p.1 d
  | p :: q :: r => @LT.lt Nat _ p.1 d ∧ LtAll d (q :: r)
noncomputable def NeAll (d : Nat) : List (Addr × Obj) → Prop
  | [] => True
  | [p] => @Ne Nat p.1 d
  | p :: q :: r => @Ne Nat p.1 d ∧ NeAll d (q :: r)
theorem ltAll_of {d : Addr} : ∀ {l : List (Addr × Obj)}, (∀ p ∈ l, p.1 < d) → LtAll d l
  | [], _ => trivial
  | [p], h => h p (.head _)
  | p :: q :: r, h => ⟨h p (.head _), ltAll_of fun x hx => h x (.tail _ hx)⟩
theorem allMem_nil {l : List (Addr × Obj)} : ∀ p ∈ ([] : List (Addr × Obj)), p ∈ l := fun _ h => nomatch h
theorem allMem {p : Addr × Obj} {r l : List (Addr × Obj)} (h : p ∈ l) (t : ∀ q ∈ r, q ∈ l) : ∀ q ∈ p :: r, q ∈ l := fun q hq => by
  rcases List.mem_cons.mp hq with rfl | hq
  · exact h
  · exact t q hq
theorem allP_nil {P : Addr × Obj → Prop} : ∀ p ∈ ([] : List (Addr × Obj)), P p := fun _ h => nomatch h
theorem allP {P : Addr × Obj → Prop} {p : Addr × Obj} {r : List (Addr × Obj)} (h : P p) (t : ∀ q ∈ r, P q) : ∀ q ∈ p :: r, P q := fun q hq => by
  rcases List.mem_cons.mp hq with rfl | hq
  · exact h
  · exact t q hq
theorem mw0 {a : Addr} {l} : a ∈ a :: l := .head _
theorem mw1 {a b : Addr} {l} : a ∈ b :: a :: l := .tail _ (.head _)
theorem mw2 {a b c : Addr} {l} : a ∈ b :: c :: a :: l := .tail _ mw1
theorem mw3 {a b c d : Addr} {l} : a ∈ b :: c :: d :: a :: l := .tail _ mw2
theorem mm0 {p : Addr × Obj} {l} : p ∈ p :: l := .head _
theorem mm1 {p a : Addr × Obj} {l} : p ∈ a :: p :: l := .tail _ (.head _)
theorem mm2 {p a b : Addr × Obj} {l} : p ∈ a :: b :: p :: l := .tail _ mm1
theorem mm3 {p a b c : Addr × Obj} {l} : p ∈ a :: b :: c :: p :: l := .tail _ mm2
theorem mm4 {p a b c d : Addr × Obj} {l} : p ∈ a :: b :: c :: d :: p :: l := .tail _ mm3
theorem mm5 {p a b c d e : Addr × Obj} {l} : p ∈ a :: b :: c :: d :: e :: p :: l := .tail _ mm4
theorem mm6 {p a b c d e f : Addr × Obj} {l} : p ∈ a :: b :: c :: d :: e :: f :: p :: l := .tail _ mm5
theorem mm7 {p a b c d e f g : Addr × Obj} {l} : p ∈ a :: b :: c :: d :: e :: f :: g :: p :: l := .tail _ mm6
theorem mm8 {p x0 x1 x2 x3 x4 x5 x6 x7 : Addr × Obj} {l} : p ∈ x0 :: x1 :: x2 :: x3 :: x4 :: x5 :: x6 :: x7 :: p :: l := .tail _ mm7
theorem mm9 {p x0 x1 x2 x3 x4 x5 x6 x7 x8 : Addr × Obj} {l} : p ∈ x0 :: x1 :: x2 :: x3 :: x4 :: x5 :: x6 :: x7 :: x8 :: p :: l := .tail _ mm8
theorem mm10 {p x0 x1 x2 x3 x4 x5 x6 x7 x8 x9 : Addr × Obj} {l} : p ∈ x0 :: x1 :: x2 :: x3 :: x4 :: x5 :: x6 :: x7 :: x8 :: x9 :: p :: l := .tail _ mm9
theorem mm11 {p x0 x1 x2 x3 x4 x5 x6 x7 x8 x9 x10 : Addr × Obj} {l} : p ∈ x0 :: x1 :: x2 :: x3 :: x4 :: x5 :: x6 :: x7 :: x8 :: x9 :: x10 :: p :: l := .tail _ mm10
theorem mm12 {p x0 x1 x2 x3 x4 x5 x6 x7 x8 x9 x10 x11 : Addr × Obj} {l} : p ∈ x0 :: x1 :: x2 :: x3 :: x4 :: x5 :: x6 :: x7 :: x8 :: x9 :: x10 :: x11 :: p :: l := .tail _ mm11
theorem mm13 {p x0 x1 x2 x3 x4 x5 x6 x7 x8 x9 x10 x11 x12 : Addr × Obj} {l} : p ∈ x0 :: x1 :: x2 :: x3 :: x4 :: x5 :: x6 :: x7 :: x8 :: x9 :: x10 :: x11 :: x12 :: p :: l := .tail _ mm12
theorem tt2 {p a b : Addr × Obj} {l} (h : p ∈ l) : p ∈ a :: b :: l := .tail _ (.tail _ h)
theorem tt3 {p a b c : Addr × Obj} {l} (h : p ∈ l) : p ∈ a :: b :: c :: l := .tail _ (tt2 h)
theorem tt4 {p a b c d : Addr × Obj} {l} (h : p ∈ l) : p ∈ a :: b :: c :: d :: l := .tail _ (tt3 h)
theorem tt5 {p a b c d e : Addr × Obj} {l} (h : p ∈ l) : p ∈ a :: b :: c :: d :: e :: l := .tail _ (tt4 h)
theorem tt6 {p a b c d e f : Addr × Obj} {l} (h : p ∈ l) : p ∈ a :: b :: c :: d :: e :: f :: l := .tail _ (tt5 h)
theorem tt7 {p a b c d e f g : Addr × Obj} {l} (h : p ∈ l) : p ∈ a :: b :: c :: d :: e :: f :: g :: l := .tail _ (tt6 h)
theorem tt8 {p a b c d e f g i : Addr × Obj} {l} (h : p ∈ l) : p ∈ a :: b :: c :: d :: e :: f :: g :: i :: l := .tail _ (tt7 h)
end

section
theorem news1 {s : Shared} {W : List Addr} {h₁ : Heap} {led : List (Addr × Obj)} {a : Addr} {o : Obj} (k : Kp [] s.heap h₁) (e : s.heap.get? a = some o) (m : a ∈ W)
    (N : News (hideAll s.heap W) s.heap.objs.size h₁ led) : News (hideAll s.heap W) s.heap.objs.size h₁ ((a, o) :: led) :=
  allP ⟨k.2 _ _ (by simp) e, Nat.ne_of_lt (Heap.lt_size e), hideAll_none _ m⟩ N
end

section
open PySem.Spec PySem.SeqAt
section
variable {prog : Program} {w : World} {A : Around} {E : Value → Shared → Prop} {s : Shared}
theorem same_int1 (ns : List Int) (x : Int) : PySem.Spec.same (.list (ns.map PyData.int)) (.list ([x].map PyData.int)) = decide (ns = [x]) := by
  simp only [PySem.Spec.same]; exact same_ints ns [x]
theorem notIn_lists3 {D T a b c : Addr} {vs : List Value} {ns : List Int} {x y z : Int} {t u v : Tok} {na nb nc nt : Nat} {Q : Value → Shared → Prop} (hD : s.heap.IsList D vs.toArray) (hi : IntsAre vs ns)
    (hT : s.heap.get? T = some (tupOf [.ref a, .ref b, .ref c] nt)) (ha : s.heap.get? a = some (listOf #[.int x t] na)) (hb : s.heap.get? b = some (listOf #[.int y u] nb)) (hc : s.heap.get? c = some (listOf #[.int z v] nc))
    (hu : A.units + 65 < cLine) (h : Q (.bool (!decide (ns = [x] ∨ ns = [y] ∨ ns = [z]))) s) : wpAny (model prog w) A (compareOp .NotIn (.ref D) (.ref T)) Q E s := by
  have one : ∀ {q : Addr} {k : Int} {tk : Tok} {n : Nat}, s.heap.get? q = some (listOf #[.int k tk] n) → Reads s.heap (.ref q) (.list ([k].map PyData.int)) [q] := fun e =>
    reads_of_ints (h := s.heap) ⟨_, e, rfl, _, rfl⟩ (.cons _ _ .nil)
  have rT : Reads s.heap (.ref T) (.tuple [.list ([x].map PyData.int), .list ([y].map PyData.int), .list ([z].map PyData.int)]) ([a] ++ ([b] ++ ([c] ++ []))) :=
    .tuple hT rfl rfl (.cons (one ha) (.cons (one hb) (.cons (one hc) .nil)))
  have rD := reads_of_ints hD hi
  have mix : ∀ ms : List Int, noMix (.list (ms.map PyData.int)) (.list (ns.map PyData.int)) = true := fun ms => by simp only [noMix]; exact noMix_ints ms ns
  refine notIn_tuple_reads rT rD (by simp [PyData.canLayAll0, PyData.canLay0]) (canLay_of_shaped (shaped_ints ns)) (room_in_shaped (shaped_ints ns) hu) ?_
  have e : ([.list ([x].map PyData.int), .list ([y].map PyData.int), .list ([z].map PyData.int)] : List PyData).any (fun y => PyData.eqv y (.list (ns.map PyData.int))) = decide (ns = [x] ∨ ns = [y] ∨ ns = [z]) := by
    have k : ∀ m : Int, PyData.eqv (.list ([m].map PyData.int)) (.list (ns.map PyData.int)) = decide (ns = [m]) := fun m => by
      rw [← same_eq_eqv _ _ (mix [m])]
      simp only [PySem.Spec.same]
      rw [same_ints]
      by_cases q : ns = [m]
      · subst q; simp
      · rw [decide_eq_false q, decide_eq_false (fun z => q z.symm)]
    simp only [List.any_cons, List.any_nil, Bool.or_false, k]
    by_cases h1 : ns = [x] <;> by_cases h2 : ns = [y] <;> by_cases h3 : ns = [z] <;> simp [h1, h2, h3]
  rw [e]; exact h
end
theorem snocNews {h₀ h : Heap} {L a : Addr} {vs : List Value} {v : Value} {n : Nat} {rest : List (Addr × Obj)} (N : News h₀ L h ((a, listOf (vs.toArray.push v) n) :: rest)) : News h₀ L h ((a, listOf (List.toArray (vs ++ [v])) n) :: rest) := by
  have e : vs.toArray.push v = List.toArray (vs ++ [v]) := by simp
  rw [e] at N; exact N
end

local macro_rules | `(tactic| walk_at "execs cons") => `(tactic| ((with_reducible refine wpAny_execs_cons ?_); k_fold))
local macro_rules | `(tactic| walk_at "eval Name") => `(tactic| (k_here; k_dflt (refine' nameX_L ?F ?v ?_ ?a ?b; (case F => k_asm); (case a => rfl); (case b => rfl); (case v => first | exact rfl | assumption); k_whole)))
local macro_rules | `(tactic| walk_at "m_and") => `(tactic| first | assumption | exact andP1 (by assumption) | exact andP2 (by assumption) | exact andL2 (by assumption) | exact andP3 (by assumption) | exact andL3 (by assumption) | exact andP4 (by assumption) | exact andL4 (by assumption) | exact andP5 (by assumption) | exact andL5 (by assumption) | exact andP6 (by assumption) | exact andL6 (by assumption) | exact andP7 (by assumption) | exact andL7 (by assumption))
local macro_rules | `(tactic| walk_at "m_ne") => `(tactic| with_reducible (first | walk_at "m_and" | (refine Ne.symm ?_; walk_at "m_and") | (refine Nat.ne_of_gt ?_; walk_at "m_and") | (refine Nat.ne_of_lt ?_; walk_at "m_and")))
local macro_rules | `(tactic| k_ne) => `(tactic| (refine neN ?_; (try dsimp only); walk_at "m_ne"))
local macro_rules | `(tactic| k_lt $h) => `(tactic| first | (replace $h := ltAll_of $h; dsimp only [LtAll] at $h:ident; fail_if_success (unfold LtAll at $h:ident)) | (replace $h := allLt_of $h; simp only [AllLt, and_true] at $h:ident))
local macro_rules | `(tactic| walk_at "m_rm") => `(tactic| ((try dsimp only [Around.deeper]); first | assumption | exact roomS (by assumption) rfl | exact roomU (by assumption) rfl | exact numLt (by assumption) rfl | exact roomT (by assumption) rfl | exact numLe (by assumption) rfl | exact numLL (by assumption) rfl | exact numLS (by assumption) rfl | omega))
local macro_rules | `(tactic| walk_at "m_no") => `(tactic| first | walk_at "m_ne" | omega)
local macro_rules | `(tactic| units_room) => `(tactic| ((try dsimp only [Around.deeper, Around.in1]); first | exact roomC (by with_reducible assumption) rfl | exact roomC2 (by with_reducible assumption) rfl))
local macro_rules | `(tactic| walk_at "m_mm") => `(tactic| first | exact mm0 | exact mm1 | exact mm2 | exact mm3 | exact mm4 | exact mm5 | exact mm6 | exact mm7 | exact mm8 | exact mm9 | assumption)
local macro_rules | `(tactic| walk_at "m_mem") => `(tactic| first | with_reducible walk_at "m_mm" | walk_at "m_mm")
local macro_rules | `(tactic| walk_at "m_allIn") => `(tactic| first | exact allMem_nil | (refine' allMem ?a ?b; (case a => walk_at "m_mem"); (case b => walk_at "m_allIn")))
local macro_rules | `(tactic| k_allIn) => `(tactic| walk_at "m_allIn")

section

noncomputable def excObj (dE t : Addr) (tb : Value) : Obj := { cls := .ref 78, dict := some dE, data := .fields #[.ref t, tb, .none, .none, .bool false, .none] }

noncomputable def frs (fr : List Env) : List Addr := fr.filterMap (·.frame)

noncomputable def Kps (W : List Addr) (fr : List Env) (h h' : Heap) : Prop :=
  h.objs.size ≤ h'.objs.size ∧ ∀ a o, a ∉ W → h.get? a = some o → (∃ sl, h'.get? a = some { o with slots := sl }) ∧ (a ∉ frs fr → h'.get? a = some o)
theorem Kps.of_kp {W : List Addr} {fr : List Env} {h h' : Heap} (k : Kp W h h') : Kps W fr h h' :=
  ⟨k.1, fun a o n e => ⟨⟨o.slots, k.2 a o n e⟩, fun _ => k.2 a o n e⟩⟩
theorem Kps.trans {W : List Addr} {fr : List Env} {h h' h'' : Heap} (a : Kps W fr h h') (b : Kps W fr h' h'') : Kps W fr h h'' := by
  refine ⟨Nat.le_trans a.1 b.1, fun x o n e => ?_⟩
  obtain ⟨⟨sl, e1⟩, e2⟩ := a.2 x o n e
  obtain ⟨⟨sl', e3⟩, e4⟩ := b.2 x _ n e1
  exact ⟨⟨sl', e3⟩, fun hn => (b.2 x o n (e2 hn)).2 hn⟩

noncomputable def TraceAt (h base : Heap) (e : Addr) (tb fl : Value) : Prop :=
  ∃ T oT ts, tb = .ref T ∧ base.get? T = none ∧ T ≠ e ∧ h.get? T = some oT ∧ oT.data = .fields ts ∧ ts[3]? = some fl

structure FlyAt (base : Heap) (fr : List Env) (e dE t : Addr) (oD : Obj) (fl : Value) (h : Heap) : Prop where
  stays : base.StaysIn h
  new : base.get? e = none
  newD : base.get? dE = none
  frames : h.FunFrames base fr
  dict : h.get? dE = some oD
  noFields : ∀ vs, oD.data ≠ .fields vs
  off : dE ∉ frs fr
  exc : ∃ tb, h.get? e = some (excObj dE t tb) ∧ TraceAt h base e tb fl

section
variable {M : Model} {A : Around} {E : Value → Shared → Prop} {s : Shared} {base : Heap} {env : Env} {outer : List Env} {L e dE t : Addr} {oD : Obj} {Q : Unit → Shared → Prop}

theorem keep_update {h : Heap} {a b : Addr} {f : Obj → Obj} (hab : b ≠ a) : (h.update a f).get? b = h.get? b := Heap.get?_update_other _ _ (Ne.symm hab)

theorem entryX {head : Value} {hadNext : Bool} (hfr : A.frames = some (env :: outer)) (hf : env.frame = some L)
    (hkb : base.StaysIn s.heap) (hen : base.get? e = none) (hdn : base.get? dE = none) (hl : s.heap.FunFrames base (env :: outer)) (hd : s.heap.get? dE = some oD) (hnf : ∀ vs, oD.data ≠ .fields vs) (hoff : dE ∉ frs (env :: outer))
    {tb : Value} (he : s.heap.get? e = some (excObj dE t tb))
    (h : ∀ h', FlyAt base (env :: outer) e dE t oD (rawInt L) h' → Kps [e] (env :: outer) s.heap h' → Q () { s with heap := h' }) :
    wpAny M A (do let a ← frameOf env; let pl ← entryPlaceOf L hadNext; let b ← EntryCells.newEntry head a .none (rawInt L) .none pl; setField (.ref e) 1 b) Q E s := by
  have hene : e ∉ (env :: outer).filterMap (·.frame) := fun hm => by
    obtain ⟨_, o, ho, hq⟩ := hl.mem hm
    rw [he] at ho; injection ho with ho; subst ho; exact hq _ rfl
  refine wpAny_bind (wpAny_frameOf_fun hfr hl hf fun h₁ hs₁ => ?_)
  refine wpAny_bind (wpAny_entryPlaceOf fun pl hpl => ?_)
  unfold EntryCells.newEntry newFields
  refine wpAny_bind (wpAny_newObj_type ?_ (hpl.sizeOk5 _ _ _ _ _))
  have he₁ : h₁.get? e = some (excObj dE t tb) := (hs₁.2.1 e hene).trans he
  have hd₁ : h₁.get? dE = some oD := (hs₁.2.1 dE hoff).trans hd
  have kb₁ : base.StaysIn h₁ := fun b o hbo => (hs₁.2.1 b fun hm => by rw [(hl.mem hm).1] at hbo; cases hbo).trans (hkb b o hbo)
  have hDe : dE ≠ e := fun q => by rw [q, he₁] at hd₁; injection hd₁ with hd₁; subst hd₁; exact hnf _ rfl
  have he₂ := Heap.get?_push_of_some (h := h₁) { cls := .type "traceback", dict := none, data := .fields ([head, .ref L, .none, rawInt L, .none] ++ (if pl.isEmpty then List.replicate 6 Value.none else pl)).toArray } he₁
  refine wpAny_setField he₂ (vs := #[.ref t, tb, .none, .none, .bool false, .none]) rfl (by simp) (h _ ?_ ?_)
  · have hTe : h₁.objs.size ≠ e := Nat.ne_of_gt (Heap.lt_size he₁)
    have keep : ∀ b o, b ≠ e → h₁.get? b = some o →
        ((h₁.push { cls := .type "traceback", dict := none, data := .fields ([head, .ref L, .none, rawInt L, .none] ++ (if pl.isEmpty then List.replicate 6 Value.none else pl)).toArray }).update e (Obj.mapFields (·.setIfInBounds 1 (Value.ref h₁.objs.size)))).get? b = some o :=
      fun b o hbe hb => by rw [keep_update hbe]; exact Heap.get?_push_of_some _ hb
    refine ⟨fun b o hbo => keep b o (fun q => by rw [q, hen] at hbo; cases hbo) (kb₁ b o hbo), hen, hdn, hl.of_keeps fun b o hb hq => ?_, keep _ _ hDe hd₁, hnf, hoff, .ref h₁.objs.size, ?_, h₁.objs.size, { cls := .type "traceback", dict := none, data := .fields ([head, .ref L, .none, rawInt L, .none] ++ (if pl.isEmpty then List.replicate 6 Value.none else pl)).toArray }, ([head, .ref L, .none, rawInt L, .none] ++ (if pl.isEmpty then List.replicate 6 Value.none else pl)).toArray, rfl, kb₁.fresh, hTe, ?_, rfl, ?_⟩
    · obtain ⟨sl, hs⟩ := hs₁.2.2 b o hb
      refine ⟨_, keep b _ (fun q => ?_) hs, rfl⟩
      rw [q, he] at hb; injection hb with hb; subst hb; exact hq _ rfl
    · exact Heap.get?_update_self (Obj.mapFields (·.setIfInBounds 1 (Value.ref h₁.objs.size))) he₂ rfl
    · rw [keep_update hTe]; exact Heap.get?_push_size h₁ rfl
    · rcases hpl with rfl | ⟨_, _, _, _, _, _, _, rfl⟩ <;> simp
  · refine ⟨by rw [Heap.size_after_update, Heap.size_push, hs₁.1]; exact Nat.le_succ _, fun a o n q => ?_⟩
    have hae : a ≠ e := fun z => n (by simp [z])
    obtain ⟨sl, hs⟩ := hs₁.2.2 a o q
    refine ⟨⟨sl, ?_⟩, fun hn => ?_⟩
    · rw [keep_update hae]; exact Heap.get?_push_of_some _ hs
    · rw [keep_update hae]; exact Heap.get?_push_of_some _ ((hs₁.2.1 a hn).trans q)

theorem note_first (hfr : A.frames = some (env :: outer)) (hf : env.frame = some L)
    (hkb : base.StaysIn s.heap) (hen : base.get? e = none) (hdn : base.get? dE = none) (hl : s.heap.FunFrames base (env :: outer)) (hd : s.heap.get? dE = some oD) (hnf : ∀ vs, oD.data ≠ .fields vs) (hoff : dE ∉ frs (env :: outer))
    (he : s.heap.get? e = some (excObj dE t .none))
    (h : ∀ h', FlyAt base (env :: outer) e dE t oD (rawInt L) h' → Kps [e] (env :: outer) s.heap h' → Q () { s with heap := h' }) : wpAny M A (noteFrame (.ref e) env) Q E s := by
  unfold noteFrame
  simp only [hf]
  refine wpAny_bind (wpAny_field (x := .none) he (vs := #[.ref t, .none, .none, .none, .bool false, .none]) rfl rfl ?_)
  rw [if_neg (by decide)]
  exact entryX hfr hf hkb hen hdn hl hd hnf hoff he h

theorem note_next (hfr : A.frames = some (env :: outer)) (hf : env.frame = some L) (F : FlyAt base (env :: outer) e dE t oD .none s.heap)
    (h : ∀ h', FlyAt base (env :: outer) e dE t oD (rawInt L) h' → (∀ a o, a ≠ e → base.get? a = some o ∨ (∀ vs, o.data ≠ .fields vs) → s.heap.get? a = some o → (∃ sl, h'.get? a = some { o with slots := sl }) ∧ (a ∉ frs (env :: outer) → h'.get? a = some o)) → s.heap.objs.size ≤ h'.objs.size → Q () { s with heap := h' }) : wpAny M A (noteFrame (.ref e) env) Q E s := by
  obtain ⟨tb, he, T, oT, ts, rfl, hTn, hTe, hT, hdT, h3⟩ := F.exc
  unfold noteFrame
  simp only [hf]
  refine wpAny_bind (wpAny_field (x := .ref T) he (vs := #[.ref t, .ref T, .none, .none, .bool false, .none]) rfl rfl ?_)
  rw [if_pos (show (Value.ref T != Value.none) = true from by simp)]
  refine wpAny_bind (wpAny_field hT hdT h3 ?_)
  rw [if_neg (show ¬ ((Value.none == rawInt L) = true) from by simp [rawInt])]
  refine wpAny_bind (wpAny_setField hT hdT (Array.getElem?_eq_some_iff.mp h3).1 ?_)
  have noRec : ∀ b o, s.heap.get? b = some o → (∀ vs, o.data ≠ .fields vs) → b ≠ T := fun b o hb hq q => by
    rw [q, hT] at hb; injection hb with hb; subst hb; exact hq ts hdT
  refine entryX (s := { s with heap := s.heap.update T (Obj.mapFields (·.setIfInBounds 3 Value.none)) }) hfr hf
    (fun b o hbo => (keep_update fun q => by rw [q, hTn] at hbo; cases hbo).trans (F.stays b o hbo)) F.new F.newD
    (F.frames.of_keeps fun b o hb hq => ⟨o, (keep_update (noRec b o hb hq)).trans hb, rfl⟩) ((keep_update (noRec _ _ F.dict F.noFields)).trans F.dict) F.noFields F.off
    ((keep_update (Ne.symm hTe)).trans he) fun h' F' K' => h h' F' (fun a o hae hq ha => ?_) (Nat.le_trans (by rw [Heap.size_after_update]; exact Nat.le_refl _) K'.1)
  have haT : a ≠ T := by
    rcases hq with hq | hq
    · intro q; rw [q, hTn] at hq; cases hq
    · exact noRec a o ha hq
  exact K'.2 a o (by simp [hae]) ((keep_update haT).trans ha)

theorem flight_none {l : List Env} {fl : Value} (F : FlyAt base l e dE t oD fl s.heap)
    (h : ∀ h', FlyAt base l e dE t oD .none h' → (∀ a o, base.get? a = some o ∨ (∀ vs, o.data ≠ .fields vs) → s.heap.get? a = some o → h'.get? a = some o) → s.heap.objs.size = h'.objs.size → Q () { s with heap := h' }) :
    wpAny M A (setFlight (.ref e) none) Q E s := by
  obtain ⟨tb, he, T, oT, ts, rfl, hTn, hTe, hT, hdT, h3⟩ := F.exc
  have hsz3 : 3 < ts.size := (Array.getElem?_eq_some_iff.mp h3).1
  have noRec : ∀ b o, s.heap.get? b = some o → (∀ vs, o.data ≠ .fields vs) → b ≠ T := fun b o hb hq q => by
    rw [q, hT] at hb; injection hb with hb; subst hb; exact hq ts hdT
  unfold setFlight
  refine wpAny_bind (wpAny_field (x := .ref T) he (vs := #[.ref t, .ref T, .none, .none, .bool false, .none]) rfl rfl ?_)
  rw [if_pos (show (Value.ref T != Value.none) = true from by simp)]
  refine wpAny_setField hT hdT hsz3 (h _ ?_ (fun a o hq ha => ?_) (by rw [Heap.size_after_update]))
  · refine ⟨fun b o hbo => (keep_update fun q => by rw [q, hTn] at hbo; cases hbo).trans (F.stays b o hbo), F.new, F.newD,
      F.frames.of_keeps fun b o hb hq => ⟨o, (keep_update (noRec b o hb hq)).trans hb, rfl⟩, (keep_update (noRec _ _ F.dict F.noFields)).trans F.dict, F.noFields, F.off,
      _, (keep_update (Ne.symm hTe)).trans he, T, _, _, rfl, hTn, hTe, Heap.get?_update_self _ hT (Obj.isFreed_of_fields (Obj.data_mapFields hdT _)), Obj.data_mapFields hdT _, by simp [hsz3]⟩
  · refine (keep_update ?_).trans ha
    rcases hq with hq | hq
    · intro q; rw [q, hTn] at hq; cases hq
    · exact noRec a o ha hq
end
end

section
open Builtin Builtin.ObjectAttr in
theorem store_first {prog : Program} {w : World} {A : Around} {E : Value → Shared → Prop} {s : Shared}
    {nm q : Str} {C N x : Addr} {bs bm : List Value} {sn : List Str} {sub : List Value} {ab : Bool} {col : Option Bool} {dd : Option Addr} {k0 k1 k2 k3 k5 : Option Value} {B newId sa owner : String}
    {mN : Str → Option Value} {name : Str} {v : Value} {vs : Array Value} {Q : Unit → Shared → Prop} (SF : StoreFacts B bm sa owner)
    (hC : s.heap.get? C = some (excClassObj nm q C N bs bm true sn sub ab col dd k0 k1 k2 k3 k5 newId)) (hn : s.heap.Ns N mN) (hns : mN "__setattr__" = none) (hna : mN name = none)
    (hB : typeLookup (.type B) name = pure none) (hx : s.heap.get? x = some { cls := .ref C, data := .fields vs })
    (hq : ∀ h' tk', h'.get? x = some { cls := .ref C, dict := some s.heap.objs.size, data := .fields vs } → h'.Ns1 s.heap.objs.size (fun y => if y = name then some v else none) →
      Kp [x] s.heap h' → Q () { s with heap := h', toks := tk' }) :
    wpAny (model prog w) A (setAttr (.ref x) name v) Q E s := by
  obtain ⟨h, g, d, t, os⟩ := s
  obtain ⟨o, hx, hc, hdn, hnc, hfz, ho⟩ : ∃ o : Obj, h.get? x = some o ∧ o.cls = .ref C ∧ o.dict = none ∧ (∀ c, o.data ≠ .cls c) ∧ o.isFreed = false ∧ ({ o with dict := some h.objs.size } : Obj) = { cls := .ref C, dict := some h.objs.size, data := .fields vs } := ⟨_, hx, rfl, rfl, nofun, rfl, rfl⟩
  have f3 := SF.slot.bind (.ref x)
  have hpass := SF.passes (.ref x)
  unfold setAttr callSpecial? specialOf
  repeat (any_goals (first | assumption | (with_reducible refine wpAny_loadPart_at hx ?_; rw [hc]) | (with_reducible refine wpAny_typeLookup_exc hC hn SF.mro SF.slot.lookup ?_; rw [hns]) | wp_step))
  refine codeAny_call_builtin SF.slot.plain SF.entry (wpAny_check_sa SF hC hx hc ?_)
  unfold Builtin.«object.__setattr__»
  repeat (first | rw [refuse_eq] | (rw [refuseLoop_ref, hpass]) | (with_reducible refine wpAny_loadPart_at hx ?_; rw [hc]) | with_reducible refine wpAny_mroOf_exc hC ?_ | (with_reducible refine wpAny_typeLookup_exc hC hn SF.mro hB ?_; rw [hna]) | wp_step)
  rw [hdn, if_neg (by simp [typeHasDict])]
  split
  · rename_i hcd
    cases hcd
  split
  · rename_i c hcd
    exact absurd hcd (hnc c)
  have hx₁ : (h.push { cls := .type "dict", data := .dict #[] }).get? x = some o := Heap.get?_push_of_some _ hx
  have hxs : x ≠ h.objs.size := Nat.ne_of_lt (Heap.lt_size hx)
  refine wpAny_bind (wpAny_alloc' ?_)
  refine wpAny_bind (wpAny_update' hx₁ ?_)
  refine wpAny_pure ?_
  have hnd : ((h.push { cls := .type "dict", data := .dict #[] }).update x fun o => { cls := o.cls, dict := some h.objs.size, data := o.data, slots := o.slots }).Ns h.objs.size (fun _ => none) :=
    ⟨_, #[], _, (Heap.get?_update_ne _ _ _ _ hxs.symm).trans (Heap.get?_push_at rfl rfl), rfl, fun e he => absurd he (by simp), fun _ => rfl⟩
  have hxd := Heap.get?_update_self (fun o => ({ cls := o.cls, dict := some h.objs.size, data := o.data, slots := o.slots } : Obj)) hx₁ (by obtain ⟨oc, od, odt, osl⟩ := o; cases odt <;> first | rfl | exact hfz)
  show wpAny _ _ (storeInDict h.objs.size (.str name _) name v) _ _ _
  unfold storeInDict newKeyGuard
  refine wpAny_bind (wpAny_pure (wpAny_bind (wpAny_nsSet1 (Heap.Ns1.of_empty hnd) fun h' hn' hs => ?_)))
  obtain ⟨oD, esD, epD, hoD, hdD, hcD⟩ := hn'.count (Within.cons name v Within.nil)
  refine wpAny_bind (wpAny_lookBehind hoD (by rw [hdD]; exact pastItsLine_dict (Nat.le_trans hcD (by rw [List.length_cons, List.length_nil, sizeLine_eq]; omega))) ?_)
  wp_walk
  repeat (any_goals (first | assumption | wp_step))
  refine hq h' _ ((hs.2 x hxs).trans (hxd.trans (congrArg some ho))) hn' ⟨?_, fun b ob hbx hb => ?_⟩
  · rw [hs.1, Heap.size_after_update, Heap.size_push]; exact Nat.le_succ _
  · exact (hs.2 b (Nat.ne_of_lt (Heap.lt_size hb))).trans ((Heap.get?_update_ne _ _ _ _ (by simpa using hbx)).trans (Heap.get?_push_of_some _ hb))

open Builtin Builtin.ObjectAttr in
theorem store_more {prog : Program} {w : World} {A : Around} {E : Value → Shared → Prop} {s : Shared}
    {nm q : Str} {C N x : Addr} {bs bm : List Value} {sn : List Str} {sub : List Value} {ab : Bool} {col : Option Bool} {dd : Option Addr} {k0 k1 k2 k3 k5 : Option Value} {B newId sa owner : String}
    {mN mA : Str → Option Value} {dx : Addr} {ns : List Str} {name : Str} {v : Value} {vs : Array Value} {Q : Unit → Shared → Prop} (SF : StoreFacts B bm sa owner)
    (hC : s.heap.get? C = some (excClassObj nm q C N bs bm true sn sub ab col dd k0 k1 k2 k3 k5 newId)) (hn : s.heap.Ns N mN) (hns : mN "__setattr__" = none) (hna : mN name = none)
    (hB : typeLookup (.type B) name = pure none) (hx : s.heap.get? x = some { cls := .ref C, dict := some dx, data := .fields vs }) (hd : s.heap.Ns1 dx mA) (hw : Within mA ns) (hsz : ns.length ≤ 1000)
    (hq : ∀ h' tk', h'.Ns1 dx (fun y => if y = name then some v else mA y) → h'.objs.size = s.heap.objs.size → (∀ a, a ≠ dx → h'.get? a = s.heap.get? a) → Q () { s with heap := h', toks := tk' }) :
    wpAny (model prog w) A (setAttr (.ref x) name v) Q E s := by
  obtain ⟨h, g, d, t, os⟩ := s
  obtain ⟨o, hx, hc, hdn, hnc⟩ : ∃ o : Obj, h.get? x = some o ∧ o.cls = .ref C ∧ o.dict = some dx ∧ (∀ c, o.data ≠ .cls c) := ⟨_, hx, rfl, rfl, nofun⟩
  have f3 := SF.slot.bind (.ref x)
  have hpass := SF.passes (.ref x)
  unfold setAttr callSpecial? specialOf
  repeat (any_goals (first | assumption | (with_reducible refine wpAny_loadPart_at hx ?_; rw [hc]) | (with_reducible refine wpAny_typeLookup_exc hC hn SF.mro SF.slot.lookup ?_; rw [hns]) | wp_step))
  refine codeAny_call_builtin SF.slot.plain SF.entry (wpAny_check_sa SF hC hx hc ?_)
  unfold Builtin.«object.__setattr__»
  repeat (first | rw [refuse_eq] | (rw [refuseLoop_ref, hpass]) | (with_reducible refine wpAny_loadPart_at hx ?_; rw [hc]) | with_reducible refine wpAny_mroOf_exc hC ?_ | (with_reducible refine wpAny_typeLookup_exc hC hn SF.mro hB ?_; rw [hna]) | wp_step)
  rw [hdn]
  refine wpAny_pure ?_
  show wpAny _ _ (storeInDict dx (.str name _) name v) _ _ _
  unfold storeInDict newKeyGuard
  refine wpAny_bind (wpAny_pure (wpAny_bind (wpAny_nsSet1 hd fun h' hn' hs => ?_)))
  obtain ⟨oD, esD, epD, hoD, hdD, hcD⟩ := hn'.count (Within.cons name v hw)
  refine wpAny_bind (wpAny_lookBehind hoD (by rw [hdD]; exact pastItsLine_dict (Nat.le_trans hcD (by rw [List.length_cons, sizeLine_eq]; omega))) ?_)
  wp_walk
  repeat (any_goals (first | assumption | wp_step))
  exact hq h' _ hn' hs.1 hs.2

theorem cls78 {w : World} {h : Heap} (X : (hd.heap_39 w.params).In h) : ∃ nm q bs sn sub ab col dd k0 k1 k2 k3 k5, h.get? 78 = some (excClassObj nm q 78 77 bs [.type "Exception", .type "BaseException", .type "object"] true sn sub ab col dd k0 k1 k2 k3 k5 "Exception.__new__") := by
  (have KX9 : Fill Mine.hd.heap_39 PySem.Challenge.rw_on0064_01 := (by k_fill; exact trivial); clear KX9)
  have e := X 78 _ (by k_is)
  exact ⟨_, _, _, _, _, _, _, _, _, _, _, _, _, e⟩
theorem ns77 {w : World} {h : Heap} (X : (hd.heap_39 w.params).In h) : h.Ns 77 (h.nsMap 77) ∧ h.nsMap 77 "__setattr__" = none ∧ h.nsMap 77 "symbol" = none ∧ h.nsMap 77 "data" = none ∧ h.nsMap 77 "__getattribute__" = none ∧ h.nsMap 77 "__getattr__" = none := by
  (have KX9 : Fill Mine.hd.heap_39 PySem.Challenge.rw_on0064_01 := (by k_fill; exact trivial); clear KX9)
  have e : nsOkIn (hd.heap_39 w.params) 77 = true := by kernel_rfl
  exact ⟨.of_isNs (isNs_of_in X e), nsMap_none_of_in X e (by k_is), nsMap_none_of_in X e (by k_is), nsMap_none_of_in X e (by k_is), nsMap_none_of_in X e (by k_is), nsMap_none_of_in X e (by k_is)⟩
theorem ns_some_of {K : Frag} {h : Heap} {N : Addr} {mg : Str → Option Value} {n : Str} {v : Value} (X : K.In h) (G : h.Ns N mg) (e : nsIn K N n = some (some v)) : mg n = some v := by
  obtain ⟨o, es, ep, ho, hd, _, hf⟩ := G
  unfold nsIn at e
  split at e
  · rename_i c d es' n' sl q
    have := X _ _ q
    rw [ho] at this
    cases this
    cases hd
    split at e
    · rename_i en he
      cases e
      rw [← hf]
      unfold nsFind findBy
      rw [← Array.find?_toList, he]
      rfl
    · split at e <;> cases e
  · cases e
theorem ns77i {w : World} {h : Heap} (X : (hd.heap_39 w.params).In h) : h.nsMap 77 "__init__" = some (.ref 75) := by
  (have KX9 : Fill Mine.hd.heap_39 PySem.Challenge.rw_on0064_01 := (by k_fill; exact trivial); clear KX9)
  exact ns_some_of X (ns77 X).1 (by k_is)

noncomputable def ErrD (oD : Obj) : Prop := ∃ es ep tk v, oD.data = .dict es ep ∧ StrKeys es ∧ UniqKeys es ∧ ∀ y, nsFind es y = if y = "data" then some v else if y = "symbol" then some (.str (Str.ofString "error") tk) else none

theorem lk_symbol : typeLookup (.type "Exception") "symbol" = pure none := by rw [typeLookup_type, builtinLookup_eq_fast]; kernel_rfl
theorem lk_data : typeLookup (.type "Exception") "data" = pure none := by rw [typeLookup_type, builtinLookup_eq_fast]; kernel_rfl

theorem lisp_init {w : World} {mean mg mb} {b : Heap} {s : Shared} {dp un : Nat} {fr : Option (List Env)} {gd : Option (List Code)} {R : Result → Shared → Prop} {e l : Addr} {t1 : Tok} {vs : Array Value}
    (S : Sx w mean mg mb b) (hb : b.StaysIn s.heap) (hroom : dp < recursionLimit) (hn : b.get? e = none) (he : s.heap.get? e = some { cls := .ref 78, data := .fields vs })
    (ret : ∀ h' tk dE oD, Kp [e] s.heap h' → h'.get? e = some { cls := .ref 78, dict := some dE, data := .fields vs } → s.heap.get? dE = none → h'.get? dE = some oD → ErrD oD → R (.ok (.ret (.none))) { s with heap := h', toks := tk }) :
    codeAny (model PySem.Challenge.rw_on0064_01.row.prog w) ⟨none, dp, fr, gd, un⟩ (.call (.ref 75) ⟨[.ref e, .str (Str.ofString "error") t1, .ref l], []⟩) R s := by
  (have KX9 : Fill Mine.hd.heap_39 PySem.Challenge.rw_on0064_01 := (by k_fill; exact trivial); clear KX9)
  refine' enter (binds := [(Str.ofString "self", .ref e), (Str.ofString "symbol", .str (Str.ofString "error") t1), (Str.ofString "data", .ref l)]) S hb [e] (by simp [hn]) ?ho ?hcd hroom ?hbind ?hloc ?_ ?hcell ?c2 ?c3 ?c4
  ((case ho => ((conv => lhs; whnf); (first | (conv in (occs := *) fd9 _ => all_goals whnf) | (conv in (occs := *) md9 _ _ => all_goals whnf)); (try dsimp only); exact rfl)); (case hcd => k_is); (case hbind => exact BindsTo.of_eq rfl); (case hloc => exact locs rfl); (case hcell => decide); (case c2 => exact rfl); (case c3 => exact rfl); (case c4 => exact rfl))
  intro g L h₁ S' hg hL F K1 env9 Q9 E9
  subst hg hL
  have X := S'.X
  have T := S'.T
  have he1 := K1.2 _ _ (by simp) he
  have heL : s.heap.objs.size ≠ e := Nat.ne_of_gt (Heap.lt_size he)
  repeat' (first | (k_unfold; (try dsimp only)) | (k_end; kc_close) | walk1 | (dsimp only; walk1) | (leave1; (try dsimp only)))
  have X1 : (hd.heap_39 w.params).In h₁ := X.keeps F.keep
  obtain ⟨_, _, _, _, _, _, _, _, _, _, _, _, _, hC⟩ := cls78 X1
  obtain ⟨n0, n1, n2, n3, n4, n5⟩ := ns77 X1
  refine store_first PySem.F.store_Exception hC n0 n1 n2 lk_symbol he1 ?_
  intro h₂ tk₂ e₂ d₂ K2
  dsimp only at e₂ d₂ K2
  have F2 := Fr.kp F K2 (by simp [heL]) (by simp [hideAll_none])
  have hnd : s.heap.get? h₁.objs.size = none := by
    cases q : s.heap.get? h₁.objs.size with
    | none => rfl
    | some o => exact absurd (Heap.lt_size (K1.2 _ _ (by simp) q)) (Nat.lt_irrefl _)
  have hLd : s.heap.objs.size < h₁.objs.size := F.ns.lt
  clear F
  (try dsimp only)
  repeat' (first | (k_unfold; (try dsimp only)) | (k_end; kc_close) | walk1 | (dsimp only; walk1) | (leave1; (try dsimp only)))
  have X2 : (hd.heap_39 w.params).In h₂ := X.keeps F2.keep
  obtain ⟨_, _, _, _, _, _, _, _, _, _, _, _, _, hC2⟩ := cls78 X2
  obtain ⟨n0, n1, n2, n3, n4, n5⟩ := ns77 X2
  have hde : h₁.objs.size ≠ e := Nat.ne_of_gt (Heap.lt_size he1)
  refine store_more (ns := ["symbol"]) PySem.F.store_Exception hC2 n0 n1 n3 lk_data e₂ d₂ (by within_ways) (by simp) ?_
  intro h₃ tk₃ n₃ sz keep₃
  dsimp only at sz keep₃
  have e₃ := (keep₃ _ hde.symm).trans e₂
  have F3 := Fr.kp F2 (W := [h₁.objs.size]) ⟨Nat.le_of_eq sz.symm, fun a o q r => (keep₃ a (by simpa using q)).trans r⟩ (by simpa using Nat.ne_of_lt hLd) (by
    intro a ha; simp at ha; subst ha
    exact Heap.get?_none_of_le (by rw [hideAll_size]; exact Nat.le_of_lt hLd))
  clear F2
  (try dsimp only)
  repeat' (first | (k_unfold; (try dsimp only)) | (k_end; kc_close) | walk1 | (dsimp only; walk1) | (leave1; (try dsimp only)))
  obtain ⟨oD, es', ep, z1, z2, z3, z4, z5⟩ := n₃
  refine ret _ _ _ oD (kp_of F3) e₃ hnd z1 ⟨es', ep, t1, .ref l, z2, z3, z4, fun y => ?_⟩
  rw [z5]

theorem exc_base_facts : True := trivial

noncomputable def RaisL (E : Value → Shared → Prop) (v : Value) (s : Shared) : Prop :=
  ∃ e dE t, v = .ref e ∧ s.heap.get? e = some (excObj dE t .none) ∧ (∃ nm q bs sn sub ab col dd k0 k1 k2 k3 k5, s.heap.get? 78 = some (excClassObj nm q 78 77 bs [.type "Exception", .type "BaseException", .type "object"] true sn sub ab col dd k0 k1 k2 k3 k5 "Exception.__new__")) ∧ E (.ref e) s

theorem Raise_mine {M : Model} {A : Around} {E : Value → Shared → Prop} {s : Shared} {env : Env} {e : Expr} {pos : Pos} {Q : Flow → Shared → Prop} (hh : A.handled = none)
    (h : wpAny M A (eval e env) (RaisL E) E s) : wpAny M A (exec (.Raise (some e) none pos) env) Q E s := by
  show wpAny M A (do standAt pos; raiseStmt env (some (do let v ← eval e env; standAt pos; pure v)) none) Q E s
  refine wpAny_bind (wpAny_standAt ?_)
  have hcB : (Value.ref 78 :: [.type "Exception", .type "BaseException", .type "object"]).contains (.type "BaseException") = true := by decide +kernel
  unfold raiseStmt
  (try dsimp only)
  refine wpAny_bind (wpAny_bind (wpAny_mono h (fun v s₁ h₁ => wpAny_bind (wpAny_standAt (wpAny_pure ?_))) fun _ _ x => x))
  obtain ⟨a, dE, t, rfl, he, ⟨_, _, _, _, _, _, _, _, _, _, _, _, _, hC⟩, hE⟩ := h₁
  obtain ⟨hp, g, d, tk, os⟩ := s₁
  unfold excObj at he
  repeat (first | with_reducible refine wpAny_loadPart_at he ?_ | with_reducible refine wpAny_loadPart_at hC ?_ | (with_reducible refine wpAny_isSubtype_exc hC ?_; rw [hcB]) | wp_step)
  exact wpAny_raiseNew_none hh hE
end

section
structure Rz (b : Heap) (fr : List Env) (e : Addr) (h h' : Heap) : Prop where
  fly : ∃ dE t oD, FlyAt b fr e dE t oD .none h' ∧ ErrD oD
  slots : ∀ a o, a ∈ frs fr → h.get? a = some o → (∀ vs, o.data ≠ .fields vs) → ∃ sl, h'.get? a = some { o with slots := sl }
  size : h.objs.size ≤ h'.objs.size

section
variable {M : Model} {A : Around} {E : Value → Shared → Prop} {s : Shared} {b h₀ : Heap} {env : Env} {outer : List Env} {L e dE t : Addr} {oD : Obj} {Q : Unit → Shared → Prop}

theorem ErrD.noFields {oD : Obj} (x : ErrD oD) : ∀ vs, oD.data ≠ .fields vs := by
  obtain ⟨es, ep, _, _, h, _⟩ := x; intro vs q; rw [h] at q; cases q
theorem frs_tail {env : Env} {outer : List Env} {a : Addr} (h : a ∈ frs outer) : a ∈ frs (env :: outer) := by
  unfold frs at *; rw [List.filterMap_cons]; split
  · exact h
  · exact .tail _ h
theorem frs_cons {env : Env} {outer : List Env} {L : Addr} (h : env.frame = some L) : frs (env :: outer) = L :: frs outer := by
  unfold frs; rw [List.filterMap_cons, h]

theorem FlyAt.tail {h : Heap} {fl : Value} (F : FlyAt b (env :: outer) e dE t oD fl h) : FlyAt b outer e dE t oD fl h :=
  ⟨F.stays, F.new, F.newD, F.frames.2.2, F.dict, F.noFields, fun q => F.off (frs_tail q), F.exc⟩

theorem rz_first (hfr : A.frames = some (env :: outer)) (hf : env.frame = some L)
    (hkb : b.StaysIn s.heap) (hen : b.get? e = none) (hdn : b.get? dE = none) (hl : s.heap.FunFrames b (env :: outer)) (hd : s.heap.get? dE = some oD) (hD : ErrD oD) (hoff : dE ∉ frs (env :: outer))
    (he : s.heap.get? e = some (excObj dE t .none)) (hs : ∀ a o, a ∈ frs outer → h₀.get? a = some o → s.heap.get? a = some o) (hz : h₀.objs.size ≤ s.heap.objs.size)
    (hQ : ∀ h', Rz b outer e h₀ h' → Q () { s with heap := h' }) : wpAny M A (leaving env (.ref e)) Q E s := by
  unfold leaving
  refine wpAny_bind (note_first hfr hf hkb hen hdn hl hd hD.noFields hoff he fun h₁ F₁ K₁ => ?_)
  refine flight_none F₁ fun h₂ F₂ k₂ z₂ => ?_
  refine hQ h₂ ⟨⟨dE, t, oD, F₂.tail, hD⟩, fun a o ha q nf => ?_, Nat.le_trans hz (Nat.le_trans K₁.1 (Nat.le_of_eq z₂))⟩
  have q₀ := hs a o ha q
  obtain ⟨⟨sl, q₁⟩, _⟩ := K₁.2 a o (by simp; rintro rfl; rw [he] at q₀; cases q₀; exact nf _ rfl) q₀
  exact ⟨sl, k₂ a _ (.inr (by simpa using nf)) q₁⟩

theorem Rz.on (hfr : A.frames = some (env :: outer)) (hf : env.frame = some L) (Z : Rz b (env :: outer) e h₀ s.heap) {h₁ : Heap} (hs : ∀ a o, a ∈ frs outer → h₁.get? a = some o → h₀.get? a = some o) (hz : h₁.objs.size ≤ h₀.objs.size)
    (hQ : ∀ h', Rz b outer e h₁ h' → Q () { s with heap := h' }) : wpAny M A (leaving env (.ref e)) Q E s := by
  obtain ⟨⟨dE, t, oD, F, hD⟩, sl, z⟩ := Z
  unfold leaving
  refine wpAny_bind (note_next hfr hf F fun h₂ F₂ K₂ z₂ => ?_)
  refine flight_none F₂ fun h₃ F₃ k₃ z₃ => ?_
  refine hQ h₃ ⟨⟨dE, t, oD, F₃.tail, hD⟩, fun a o ha q nf => ?_, Nat.le_trans hz (Nat.le_trans z (Nat.le_trans z₂ (Nat.le_of_eq z₃)))⟩
  obtain ⟨sl₁, q₁⟩ := sl a o (frs_tail ha) (hs a o ha q) nf
  obtain ⟨tb, he, _⟩ := F.exc
  obtain ⟨⟨sl₂, q₂⟩, _⟩ := K₂ a _ (by rintro rfl; rw [he] at q₁; injection q₁ with q₁; exact nf _ (congrArg Obj.data q₁).symm) (.inr (by simpa using nf)) q₁
  exact ⟨sl₂, k₃ a _ (.inr (by simpa using nf)) q₂⟩
end

theorem funFrames_kp {b h h' : Heap} {W : List Addr} : ∀ {l : List Env}, h.FunFrames b l → Kp W h h' → (∀ a ∈ W, a ∉ frs l) → h'.FunFrames b l
  | [], _, _, _ => trivial
  | env :: rest, ⟨hk, ⟨L, o, hf, hn, ho, hd⟩, hr⟩, k, hw =>
    ⟨hk, ⟨L, o, hf, hn, k.2 _ _ (fun q => hw _ q (by rw [frs_cons hf]; exact .head _)) ho, hd⟩, funFrames_kp hr k fun a ha q => hw a ha (frs_tail q)⟩

theorem funFrames_top {b h₀ h : Heap} {L a : Addr} {m : Str → Option Value} {name : Str} {scope : Scope} {cd : Value} {outer : List Env} (hs : b.objs.size ≤ L ∨ b.get? L = none) (F : Fr h₀ L h m) (hl : h.FunFrames b outer) (hk : scope.kind = .function := by rfl) :
    h.FunFrames b (envOf name scope L a cd :: outer) := by
  refine Heap.FunFrames.cons (m := m) (L := L) ?_ rfl F.ns ?_ hl
  · show scope.kind ≠ _
    rw [hk]; decide
  · rcases hs with q | q
    · exact Heap.get?_none_of_le q
    · exact q

theorem refuse_spec {w : World} {mean mg mb} {b : Heap} {s : Shared} {dp un : Nat} {fr : List Env} {gd : Option (List Code)} {R : Result → Shared → Prop} 
    (S : Sx w mean mg mb b) (hb : b.StaysIn s.heap) (hl : s.heap.FunFrames b fr) (hroom : dp + 10 < recursionLimit)
    (exn : ∀ e h' tk, Rz b fr e s.heap h' → R (.error (.ref e)) { s with heap := h', toks := tk }) :
    codeAny (model PySem.Challenge.rw_on0064_01.row.prog w) ⟨none, dp, some fr, gd, un⟩ (.call (.ref 113) ⟨[], []⟩) R s := by
  (have KX9 : Fill Mine.hd.heap_39 PySem.Challenge.rw_on0064_01 := (by k_fill; exact trivial); clear KX9)
  refine' enter (binds := []) S hb [] (by simp) ?ho ?hcd (by show dp < _; omega) ?hbind ?hloc ?_ ?hcell ?c2 ?c3 ?c4
  ((case ho => ((conv => lhs; whnf); (first | (conv in (occs := *) fd9 _ => all_goals whnf) | (conv in (occs := *) md9 _ _ => all_goals whnf)); (try dsimp only); exact rfl)); (case hcd => k_is); (case hbind => exact BindsTo.of_eq rfl); (case hloc => exact locs rfl); (case hcell => decide); (case c2 => exact rfl); (case c3 => exact rfl); (case c4 => exact rfl))
  intro g L h₁ S' hg hL F K1 env9 Q9 E9
  subst hg hL
  have X := S'.X
  have T := S'.T
  have N : News (hideAll s.heap []) s.heap.objs.size h₁ [] := News.nil
  repeat' (first | (k_unfold; (try dsimp only)) | (k_end; kc_close) | (first | ((with_reducible show wpAny _ _ (exec (Stmt.Raise _ _ _) _) _ _ _); with_reducible (k_here; refine Raise_mine rfl ?_))) | walk1 | (dsimp only; walk1) | (leave1; (try dsimp only)))
  rename Fr _ _ _ _ => F'
  rename News _ _ _ _ => N'
  have X2 := X.keeps F'.keep
  obtain ⟨_, _, _, _, _, _, _, _, _, _, _, _, _, hC⟩ := cls78 X2
  obtain ⟨n0, n1, n2, n3, n4, n5⟩ := ns77 X2
  refine wpAny_call_exc_init PySem.F.excBase_Exception hC n0 (ns77i X2) (X2 75 _ (by k_is)) rfl ?_
  intro h₃ e hm
  obtain ⟨t, he, ht, ht'⟩ := hm.there
  have old : ∀ a o, (hideAll s.heap []).get? a = some o → h₃.get? a = some o := fun a o q => hm.keeps _ _ (F'.keep _ _ q)
  have new : ∀ a, h₃.get? a = none ∨ (∃ x, (hideAll s.heap []).get? a = some x) ∨ True := fun _ => .inr (.inr trivial)
  have hge : (hideAll s.heap []).get? e = none := fresh_of_stays (fun a o q => F'.keep _ _ q) hm.new
  refine wpAny_call (lisp_init (b := hideAll s.heap []) S' old ?_ hge he ?_)
  · exact Nat.lt_of_le_of_lt (Nat.add_le_add_left (k := dp + 1) (m := 9) (Nat.le_of_ble_eq_true rfl)) (by omega)
  intro h₄ tk dE oD K4 he4 hd0 hd4 hD
  refine ⟨rfl, e, dE, t, rfl, he4, cls78 (X.keeps fun a o q => K4.2 _ _ (by simp; rintro rfl; rw [hge] at q; cases q) (old a o q)), ?_⟩
  have old4 : ∀ a o, (hideAll s.heap []).get? a = some o → h₄.get? a = some o := fun a o q => K4.2 _ _ (by simp; rintro rfl; rw [hge] at q; cases q) (old a o q)
  have hsz : s.heap.objs.size ≤ h₄.objs.size := by
    obtain ⟨oL, _, _, eL, _⟩ := F'.ns
    have := K4.2 _ _ (by simp; rintro rfl; rw [hm.new] at eL; cases eL) (hm.keeps _ _ eL)
    exact Nat.le_of_lt (Heap.lt_size this)
  obtain ⟨m4, F4⟩ : ∃ m, Fr (hideAll s.heap []) s.heap.objs.size h₄ m := by
    obtain ⟨oL, e1, e2, eL, e3⟩ := F'.ns
    exact ⟨_, ⟨oL, e1, e2, K4.2 _ _ (by simp; rintro rfl; rw [hm.new] at eL; cases eL) (hm.keeps _ _ eL), e3⟩, old4, F'.above⟩
  have sb : b.StaysIn (hideAll s.heap []) := fun a o q => hideAll_get _ (hb a o q) (by simp)
  have hl4 : h₄.FunFrames b fr := funFrames_kp hl (W := []) ⟨hsz, fun a o _ q => old4 a o (hideAll_get _ q (by simp))⟩ (by simp)
  have hl5 := funFrames_top (a := 113) (name := Str.ofString "refuse") (scope := { kind := ScopeKind.function, names := [(Str.ofString "LispSignal", NameKind.globalImplicit)], isGenerator := false, isCoroutine := false }) (cd := .ref 112) (.inr (fresh_of_stays hb (Heap.get?_none_of_le (Nat.le_refl _)))) F4 hl4
  have hdL : dE ≠ s.heap.objs.size := by
    rintro rfl
    obtain ⟨oL, e1, e2, eL, e3⟩ := F'.ns
    have := hm.keeps _ _ eL
    rw [hd0] at this; cases this
  refine rz_first (h₀ := s.heap) (L := s.heap.objs.size) rfl rfl (fun a o q => old4 _ _ (sb _ _ q)) (fresh_of_stays sb hge) (fresh_of_stays (fun a o q => old _ _ (sb _ _ q)) hd0) hl5 hd4 hD ?_ he4 (fun a o _ q => old4 _ _ (hideAll_get _ q (by simp))) hsz ?_
  · rw [frs_cons rfl]
    intro q
    rcases List.mem_cons.mp q with q | q
    · exact hdL q
    · obtain ⟨_, o, q1, _⟩ := hl.mem q
      have := old _ _ (hideAll_get _ q1 (by simp))
      rw [hd0] at this; cases this
  · intro h₅ Z
    exact exn _ _ _ Z
end

section
noncomputable abbrev rdObj (dx : Addr) : Obj := instObj 172 dx
noncomputable abbrev rdDict (P : Params) (l : Addr) (pl : Int) (t1 t2 t3 : Tok) : Obj :=
  dictOf [⟨PyData.keyHash P (Str.ofString "codes"), .str (Str.ofString "codes") t1, .ref l⟩, ⟨PyData.keyHash P (Str.ofString "place"), .str (Str.ofString "place") t2, .int pl t3⟩] 2

noncomputable def codeAt (cs : List Int) (pl : Int) : Int := if pl < cs.length then cs.getD pl.toNat 0 else -1

theorem kp_sub {W W' : List Addr} {h h' : Heap} (k : Kp W h h') (e : ∀ a ∈ W, a ∉ W' → ∀ o, h.get? a = some o → h'.get? a = some o) : Kp W' h h' :=
  ⟨k.1, fun a o n q => by
    by_cases ha : a ∈ W
    · exact e a ha n o q
    · exact k.2 a o ha q⟩

theorem code_spec {w : World} {mean mg mb} {b : Heap} {s : Shared} {dp un : Nat} {fr : Option (List Env)} {gd : Option (List Code)} {R : Result → Shared → Prop} {x dx l : Addr} {pl : Int} {t1 t2 t3 : Tok} {vs : List Value} {cs : List Int} {n : Nat}
    (S : Sx w mean mg mb b) (hb : b.StaysIn s.heap) (hW : ∀ a ∈ [x, dx, l], b.get? a = none)
    (hx : s.heap.get? x = some (rdObj dx)) (hdx : s.heap.get? dx = some (rdDict w.params l pl t1 t2 t3)) (hl : s.heap.get? l = some (listOf vs.toArray n)) (hi : IntsAre vs cs)
    (hlen : cs.length < 1000000) (hp : 0 ≤ pl) (hroom : dp < recursionLimit)
    (ret : ∀ t h' tk, Kp [] s.heap h' → R (.ok (.ret (.int (codeAt cs pl) t))) { s with heap := h', toks := tk }) :
    codeAny (model PySem.Challenge.rw_on0064_01.row.prog w) ⟨none, dp, fr, gd, un⟩ (.call (.ref 134) ⟨[.ref x], []⟩) R s := by
  (have KX9 : Fill Mine.hd.heap_39 PySem.Challenge.rw_on0064_01 := (by k_fill; exact trivial); clear KX9)
  refine' enter (binds := [(Str.ofString "self", .ref x)]) S hb [x, dx, l] hW ?ho ?hcd hroom ?hbind ?hloc ?_ ?hcell ?c2 ?c3 ?c4
  ((case ho => ((conv => lhs; whnf); (first | (conv in (occs := *) fd9 _ => all_goals whnf) | (conv in (occs := *) md9 _ _ => all_goals whnf)); (try dsimp only); exact rfl)); (case hcd => k_is); (case hbind => exact BindsTo.of_eq rfl); (case hloc => exact locs rfl); (case hcell => decide); (case c2 => exact rfl); (case c3 => exact rfl); (case c4 => exact rfl))
  intro g L h₁ S' hg hL F K1 env9 Q9 E9
  subst hg hL
  have X := S'.X
  have T := S'.T
  have N : News (hideAll s.heap [x, dx, l]) s.heap.objs.size h₁ [(x, rdObj dx), (dx, rdDict w.params l pl t1 t2 t3), (l, listOf vs.toArray n)] :=
    news1 K1 hx mw0 (news1 K1 hdx mw1 (news1 K1 hl mw2 News.nil))
  repeat' (first | (k_unfold; (try dsimp only)) | (k_end; kc_close) | walk1 | (dsimp only; walk1) | (leave1; (try dsimp only)))
  all_goals (
    rename Fr _ _ _ _ => F'
    rename News _ _ _ _ => N'
    have kk := kp_sub (W' := []) (kp_of F') (by simp [hx, hdx, hl, N'.get (.head _), N'.get (.tail _ (.head _)), N'.get (.tail _ (.tail _ (.head _)))]))
  · rw [show codeAt cs pl = cs.getD pl.toNat 0 from if_pos (by omega)] at ret
    exact ret _ _ _ kk
  · rw [show codeAt cs pl = -1 from if_neg (by omega)] at ret
    exact ret _ _ _ kk

theorem rd_ne {P : Params} {h : Heap} {x dx l : Addr} {pl : Int} {t1 t2 t3 : Tok} {vs : List Value} {n : Nat} (hx : h.get? x = some (rdObj dx)) (hdx : h.get? dx = some (rdDict P l pl t1 t2 t3)) (hl : h.get? l = some (listOf vs.toArray n)) : @Ne Nat x dx ∧ @Ne Nat l dx ∧ @Ne Nat x l := by
  refine ⟨?_, ?_, ?_⟩
  · rintro rfl; rw [hx] at hdx; cases hdx
  · rintro rfl; rw [hl] at hdx; exact nomatch (congrArg Obj.data (Option.some.inj hdx) : Data.seq _ _ = Data.dict _ _)
  · rintro rfl; rw [hx] at hl; exact nomatch (congrArg Obj.cls (Option.some.inj hl) : Value.ref 172 = Value.type "list")

theorem rd_kept {P : Params} {h h' : Heap} {x dx l : Addr} {pl : Int} {t1 t2 t3 : Tok} {vs : List Value} {n : Nat} {h₀ : Heap} {L : Addr} {news : List (Addr × Obj)} (hx : h.get? x = some (rdObj dx)) (hdx : h.get? dx = some (rdDict P l pl t1 t2 t3)) (hl : h.get? l = some (listOf vs.toArray n))
    (N : News h₀ L h' news) (kx : (x, rdObj dx) ∈ news) (kd : (dx, rdDict P l pl t1 t2 t3) ∈ news) (kl : (l, listOf vs.toArray n) ∈ news) : ∀ a ∈ [x, dx, l], a ∉ ([] : List Addr) → ∀ o, h.get? a = some o → h'.get? a = some o := by
  intro a ha _ o q
  simp at ha
  rcases ha with rfl | rfl | rfl
  · rw [hx] at q; cases q; exact N.get kx
  · rw [hdx] at q; cases q; exact N.get kd
  · rw [hl] at q; cases q; exact N.get kl
theorem rd_kept2 {h h' : Heap} {x dx l : Addr} {vs : List Value} {n : Nat} {h₀ : Heap} {L : Addr} {news : List (Addr × Obj)} (hx : h.get? x = some (rdObj dx)) (hl : h.get? l = some (listOf vs.toArray n))
    (N : News h₀ L h' news) (kx : (x, rdObj dx) ∈ news) (kl : (l, listOf vs.toArray n) ∈ news) : ∀ a ∈ [x, dx, l], a ∉ [dx] → ∀ o, h.get? a = some o → h'.get? a = some o := by
  intro a ha hn o q
  simp at ha hn
  rcases ha with rfl | rfl | rfl
  · rw [hx] at q; cases q; exact N.get kx
  · exact absurd rfl hn
  · rw [hl] at q; cases q; exact N.get kl

section
variable {w : World} {mean : ExcName → Option Value} {mg mb : Str → Option Value} {b g : Heap} {s : Shared} {dp un : Nat} {fr : List Env} {gd : Option (List Code)} {W : List Addr} {h₂ : Heap} {m : Str → Option Value} {x dx l L : Addr} {pl : Int} {t1 t2 t3 : Tok} {vs : List Value} {cs : List Int} {n : Nat}
  {news : List (Addr × Obj)}
theorem under_ff (hb : b.StaysIn s.heap) (hW : ∀ a ∈ W, b.get? a = none) (hl : s.heap.FunFrames b fr) (hWf : ∀ a ∈ W, a ∉ frs fr) (F : Fr (hideAll s.heap W) s.heap.objs.size h₂ m) :
    b.StaysIn h₂ ∧ (∀ name scope a cd, scope.kind = .function → h₂.FunFrames b (envOf name scope s.heap.objs.size a cd :: fr)) ∧ (∀ a o, a ∈ frs fr → s.heap.get? a = some o → h₂.get? a = some o) ∧ s.heap.objs.size ≤ h₂.objs.size :=
  ⟨fun a o q => F.keep _ _ (hide_stays hb hW _ _ q), fun _ _ _ _ hk => funFrames_top (.inr (fresh_of_stays hb (Heap.get?_none_of_le (Nat.le_refl _)))) F (funFrames_kp hl (kp_of F) hWf) hk,
    fun a o ha q => F.keep _ _ (hideAll_get _ q fun z => hWf a z ha), Nat.le_of_lt F.ns.lt⟩

theorem code_call {E : Value → Shared → Prop} {Q : Value → Shared → Prop} {A : Around} (S : Sx w mean mg mb g) (F : Fr g L s.heap m) (N : News g L s.heap news) (hx : (x, rdObj dx) ∈ news) (hdx : (dx, rdDict w.params l pl t1 t2 t3) ∈ news) (hl : (l, listOf vs.toArray n) ∈ news) (hi : IntsAre vs cs)
    (hlen : cs.length < 1000000) (hp : 0 ≤ pl) (hA : A = ⟨none, dp, some fr, gd, un⟩) (hroom : dp < recursionLimit)
    (k : ∀ t h' tk, Fr g L h' m → News g L h' news → Q (.int (codeAt cs pl) t) { s with heap := h', toks := tk }) :
    wpAny (model PySem.Challenge.rw_on0064_01.row.prog w) A (call (.ref 134) [.ref x]) Q E s := by
  subst hA
  refine wpAny_call (code_spec S F.keep ?_ (N.get hx) (N.get hdx) (N.get hl) hi hlen hp hroom fun t h' tk K => k t h' tk (Fr.kp0 F K) (News.kp0 N K))
  intro a ha
  simp at ha
  rcases ha with rfl | rfl | rfl
  · exact N.fresh hx
  · exact N.fresh hdx
  · exact N.fresh hl
end
end

local macro_rules | `(tactic| walk_at "t_code_call_134") => `(tactic| (intro t h' tk F' N'; (try k_sweep)))
section
theorem take_spec {w : World} {mean mg mb} {b : Heap} {s : Shared} {dp un : Nat} {fr : List Env} {gd : Option (List Code)} {R : Result → Shared → Prop} {x dx l : Addr} {pl c : Int} {t1 t2 t3 tc : Tok} {vs : List Value} {cs : List Int} {n : Nat}
    (S : Sx w mean mg mb b) (hb : b.StaysIn s.heap) (hW : ∀ a ∈ [x, dx, l], b.get? a = none) (hff : s.heap.FunFrames b fr) (hWf : ∀ a ∈ [x, dx, l], a ∉ frs fr)
    (hx : s.heap.get? x = some (rdObj dx)) (hdx : s.heap.get? dx = some (rdDict w.params l pl t1 t2 t3)) (hl : s.heap.get? l = some (listOf vs.toArray n)) (hi : IntsAre vs cs)
    (hlen : cs.length < 1000000) (hp : 0 ≤ pl) (hpl : pl ≤ cs.length) (hroom : dp + 20 < recursionLimit)
    (ret : codeAt cs pl = c → ∀ t3' h' tk, Kp [dx] s.heap h' → h'.get? dx = some (rdDict w.params l (pl + 1) t1 t2 t3') → R (.ok (.ret .none)) { s with heap := h', toks := tk })
    (exn : codeAt cs pl ≠ c → ∀ e h' tk, Rz b fr e s.heap h' → R (.error (.ref e)) { s with heap := h', toks := tk }) :
    codeAny (model PySem.Challenge.rw_on0064_01.row.prog w) ⟨none, dp, some fr, gd, un⟩ (.call (.ref 141) ⟨[.ref x, .int c tc], []⟩) R s := by
  (have KX9 : Fill Mine.hd.heap_39 PySem.Challenge.rw_on0064_01 := (by k_fill; exact trivial); clear KX9)
  refine' enter (binds := [(Str.ofString "self", .ref x), (Str.ofString "code", .int c tc)]) S hb [x, dx, l] hW ?ho ?hcd (by show dp < _; omega) ?hbind ?hloc ?_ ?hcell ?c2 ?c3 ?c4
  ((case ho => ((conv => lhs; whnf); (first | (conv in (occs := *) fd9 _ => all_goals whnf) | (conv in (occs := *) md9 _ _ => all_goals whnf)); (try dsimp only); exact rfl)); (case hcd => k_is); (case hbind => exact BindsTo.of_eq rfl); (case hloc => exact locs rfl); (case hcell => decide); (case c2 => exact rfl); (case c3 => exact rfl); (case c4 => exact rfl))
  intro g L h₁ S' hg hL F K1 env9 Q9 E9
  subst hg hL
  have X := S'.X
  have T := S'.T
  have N : News (hideAll s.heap [x, dx, l]) s.heap.objs.size h₁ [(x, rdObj dx), (dx, rdDict w.params l pl t1 t2 t3), (l, listOf vs.toArray n)] :=
    news1 K1 hx mw0 (news1 K1 hdx mw1 (news1 K1 hl mw2 News.nil))
  obtain ⟨d1, d2, d3⟩ := rd_ne hx hdx hl
  repeat' (first | (k_unfold; (try dsimp only)) | (k_end; kc_close) | (first | ((with_reducible show wpAny _ _ (call (Value.ref _) _ _) _ _ _); k_here; (with_unfolding_all show wpAny _ _ (call (Value.ref 134) [Value.ref _]) _ _ _); (refine' code_call ?k9S ?k9F ?k9N ?k9hx ?k9hdx ?k9hl ?k9hi ?k9hlen ?k9hp ?k9hA ?k9hroom ?_; (case k9F => k_asm); (case k9N => k_asm); (case k9S => assumption); (case k9hx => k_mem); (case k9hdx => k_mem); (case k9hl => k_mem); (case k9hi => assumption); (case k9hlen => assumption); (case k9hp => first | assumption | omega); (case k9hA => rfl); (case k9hroom => walk_at "m_rm"); k_whole); walk_at "t_code_call_134")) | walk1 | (dsimp only; walk1) | (leave1; (try dsimp only)))
  all_goals (
    rename Fr _ _ _ _ => F'
    rename News _ _ _ _ => N'
    obtain ⟨sb, ff, kf, hz⟩ := under_ff hb hW hff hWf F')
  · refine wpAny_call (refuse_spec S sb (ff _ _ _ _ rfl) (by dsimp only [Around.deeper]; omega) fun e h' tk Z => ?_)
    refine Rz.on rfl rfl Z kf hz fun h'' Z' => ?_
    exact exn (by assumption) _ _ _ Z'
  · refine ret (by assumption) _ _ _ (kp_sub (kp_of F') ?_) (N'.get (.tail _ (.head _)))
    simp [hx, hdx, hl, N'.get (.head _), N'.get (.tail _ (.tail _ (.head _)))]

structure Ctx (b : Heap) (h : Heap) (W : List Addr) (fr : List Env) : Prop where
  stays : b.StaysIn h
  out : ∀ a ∈ W, b.get? a = none
  ff : h.FunFrames b fr
  off : ∀ a ∈ W, a ∉ frs fr

section
variable {w : World} {mean : ExcName → Option Value} {mg mb : Str → Option Value} {b g : Heap} {s₀ : Shared} {dp un tk : Nat} {fr : List Env} {gd : Option (List Code)} {W : List Addr} {h h' : Heap} {m : Str → Option Value} {x dx l L e : Addr} {pl c : Int} {t1 t2 t3 tc : Tok} {vs : List Value} {cs : List Int} {n : Nat}
  {news : List (Addr × Obj)} {name : Str} {scope : Scope} {a : Addr} {cd : Value} {R : Result → Shared → Prop}
theorem Ctx.callee (C : Ctx b s₀.heap W fr) (F : Fr (hideAll s₀.heap W) s₀.heap.objs.size h m) (hs : ∀ a ∈ W, a ≠ s₀.heap.objs.size) (hk : scope.kind = .function := by rfl) :
    Ctx b h W (envOf name scope s₀.heap.objs.size a cd :: fr) := by
  obtain ⟨k1, k2, k3, k4⟩ := under_ff C.stays C.out C.ff C.off F
  refine ⟨k1, C.out, k2 _ _ _ _ hk, fun z hz q => ?_⟩
  rw [frs_cons rfl] at q
  rcases List.mem_cons.mp q with q | q
  · exact hs z hz q
  · exact C.off z hz q
theorem Ctx.on (C : Ctx b s₀.heap W fr) (F : Fr (hideAll s₀.heap W) s₀.heap.objs.size h m) (Z : Rz b (envOf name scope s₀.heap.objs.size a cd :: fr) e h h') {Q : Unit → Shared → Prop} {M : Model} {E : Value → Shared → Prop}
    (bad : ∀ h' tk, Rz b fr e s₀.heap h' → Q () { s₀ with heap := h', toks := tk }) :
    wpAny M ((⟨none, dp, some fr, gd, un⟩ : Around).deeper (envOf name scope s₀.heap.objs.size a cd)) (leaving (envOf name scope s₀.heap.objs.size a cd) (.ref e)) Q E { s₀ with heap := h', toks := tk } := by
  obtain ⟨_, _, kf, hz⟩ := under_ff C.stays C.out C.ff C.off F
  exact Rz.on rfl rfl Z kf hz fun h'' Z' => bad _ _ Z'
theorem News.updF {G : Obj → List (Addr × Obj)} {o o' : Obj} {d : Addr} (N : News g L h news) (U : UpdF d o news G) (k : Kp [d] h h') (e : h'.get? d = some o') : News g L h' (G o') := by
  obtain ⟨pre, post, rfl, h2, h3, h4⟩ := U.split
  rw [h2]
  intro p hp
  rcases List.mem_append.mp hp with q | q
  · have z := N p (List.mem_append_left _ q)
    exact ⟨k.2 _ _ (by simpa using h3 p q) z.1, z.2⟩
  · rcases List.mem_cons.mp q with rfl | q
    · have z := N (d, o) (List.mem_append_right _ (.head _))
      exact ⟨e, z.2⟩
    · have z := N p (List.mem_append_right _ (.tail _ q))
      exact ⟨k.2 _ _ (by simpa using h4 p q) z.1, z.2⟩

theorem take_call (S : Sx w mean mg mb b) (C : Ctx b s₀.heap [x, dx, l] fr) (F : Fr (hideAll s₀.heap [x, dx, l]) s₀.heap.objs.size h m) (N : News (hideAll s₀.heap [x, dx, l]) s₀.heap.objs.size h news)
    (hx : (x, rdObj dx) ∈ news) (hl : (l, listOf vs.toArray n) ∈ news) {G : Obj → List (Addr × Obj)} (U : UpdF dx (rdDict w.params l pl t1 t2 t3) news G) (hi : IntsAre vs cs)
    (hlen : cs.length < 1000000) (hp : 0 ≤ pl) (hpl : pl ≤ cs.length) (hroom : dp + 30 < recursionLimit) {Q : Value → Shared → Prop} (hk : scope.kind = .function) (hc1 : c ≠ -1)
    (k : codeAt cs pl = c → pl < cs.length → ∀ t h' tk, Fr (hideAll s₀.heap [x, dx, l]) s₀.heap.objs.size h' m → News (hideAll s₀.heap [x, dx, l]) s₀.heap.objs.size h' (G (rdDict w.params l (pl + 1) t1 t2 t)) → Q .none { s₀ with heap := h', toks := tk })
    (bad : codeAt cs pl ≠ c → ∀ e h' tk, Rz b fr e s₀.heap h' → R (.error (.ref e)) { s₀ with heap := h', toks := tk }) :
    wpAny (model PySem.Challenge.rw_on0064_01.row.prog w) ((⟨none, dp, some fr, gd, un⟩ : Around).deeper (envOf name scope s₀.heap.objs.size a cd)) (call (.ref 141) [.ref x, .int c tc]) Q
      (fun e s' => wpAny (model PySem.Challenge.rw_on0064_01.row.prog w) ((⟨none, dp, some fr, gd, un⟩ : Around).deeper (envOf name scope s₀.heap.objs.size a cd)) (leaving (envOf name scope s₀.heap.objs.size a cd) e) (fun _ s'' => R (.error e) s'') (fun e' s'' => R (.error e') s'') s')
      { s₀ with heap := h, toks := tk } := by
  have hdx : (dx, rdDict w.params l pl t1 t2 t3) ∈ news := by
    obtain ⟨pre, post, rfl, _⟩ := U.split
    exact List.mem_append_right _ (.head _)
  have C' := C.callee (name := name) (scope := scope) (a := a) (cd := cd) F (by
    intro z hz; simp at hz; rcases hz with rfl | rfl | rfl
    · exact (N _ hx).2.1
    · exact (N _ hdx).2.1
    · exact (N _ hl).2.1) hk
  refine wpAny_call (take_spec S C'.stays C'.out C'.ff C'.off (N.get hx) (N.get hdx) (N.get hl) hi hlen hp hpl (by show dp + 1 + 20 < _; omega) ?_ ?_)
  · intro hc t h' tk K hd'
    refine k hc (by unfold codeAt at hc; split at hc <;> omega) t h' tk (Fr.kp F K (by simpa using (N _ hdx).2.1.symm) (by simpa using (N _ hdx).2.2)) (News.updF N U K hd')
  · intro hc e h' tk Z
    exact Ctx.on C F Z fun h'' tk' Z' => bad hc _ _ _ Z'

theorem refuse_call (S : Sx w mean mg mb b) (C : Ctx b s₀.heap [x, dx, l] fr) (F : Fr (hideAll s₀.heap [x, dx, l]) s₀.heap.objs.size h m) (N : News (hideAll s₀.heap [x, dx, l]) s₀.heap.objs.size h news)
    (hx : (x, rdObj dx) ∈ news) {d : Obj} (hdx : (dx, d) ∈ news) {d' : Obj} (hl : (l, d') ∈ news) (hroom : dp + 30 < recursionLimit) {Q : Value → Shared → Prop} (hk : scope.kind = .function)
    (bad : ∀ e h' tk, Rz b fr e s₀.heap h' → R (.error (.ref e)) { s₀ with heap := h', toks := tk }) :
    wpAny (model PySem.Challenge.rw_on0064_01.row.prog w) ((⟨none, dp, some fr, gd, un⟩ : Around).deeper (envOf name scope s₀.heap.objs.size a cd)) (call (.ref 113) []) Q
      (fun e s' => wpAny (model PySem.Challenge.rw_on0064_01.row.prog w) ((⟨none, dp, some fr, gd, un⟩ : Around).deeper (envOf name scope s₀.heap.objs.size a cd)) (leaving (envOf name scope s₀.heap.objs.size a cd) e) (fun _ s'' => R (.error e) s'') (fun e' s'' => R (.error e') s'') s')
      { s₀ with heap := h, toks := tk } := by
  have C' := C.callee (name := name) (scope := scope) (a := a) (cd := cd) F (by
    intro z hz; simp at hz; rcases hz with rfl | rfl | rfl
    · exact (N _ hx).2.1
    · exact (N _ hdx).2.1
    · exact (N _ hl).2.1) hk
  refine wpAny_call (refuse_spec S C'.stays C'.ff (by show dp + 1 + 10 < _; omega) fun e h' tk Z => ?_)
  exact Ctx.on C F Z fun h'' tk' Z' => bad _ _ _ Z'
end
end

section
theorem escaped_spec {w : World} {mean mg mb} {b : Heap} {s : Shared} {dp un : Nat} {fr : List Env} {gd : Option (List Code)} {R : Result → Shared → Prop} {x dx l : Addr} {pl : Int} {t1 t2 t3 : Tok} {vs : List Value} {cs : List Int} {n : Nat}
    (S : Sx w mean mg mb b) (C : Ctx b s.heap [x, dx, l] fr)
    (hx : s.heap.get? x = some (rdObj dx)) (hdx : s.heap.get? dx = some (rdDict w.params l pl t1 t2 t3)) (hl : s.heap.get? l = some (listOf vs.toArray n)) (hi : IntsAre vs cs)
    (hlen : cs.length < 1000000) (hp : 0 ≤ pl) (hroom : dp + 40 < recursionLimit) (hu : un ≤ 9000)
    (ret : ∀ d, d = (if codeAt cs pl = 110 then 10 else codeAt cs pl) → (codeAt cs pl = 34 ∨ codeAt cs pl = 92 ∨ codeAt cs pl = 110) → ∀ t h' tk, Kp [] s.heap h' → R (.ok (.ret (.int d t))) { s with heap := h', toks := tk })
    (exn : ¬ (codeAt cs pl = 34 ∨ codeAt cs pl = 92 ∨ codeAt cs pl = 110) → ∀ e h' tk, Rz b fr e s.heap h' → R (.error (.ref e)) { s with heap := h', toks := tk }) :
    codeAny (model PySem.Challenge.rw_on0064_01.row.prog w) ⟨none, dp, some fr, gd, un⟩ (.call (.ref 155) ⟨[.ref x], []⟩) R s := by
  (have KX9 : Fill Mine.hd.heap_39 PySem.Challenge.rw_on0064_01 := (by k_fill; exact trivial); clear KX9)
  refine' enter (binds := [(Str.ofString "self", .ref x)]) S C.stays [x, dx, l] C.out ?ho ?hcd (by show dp < _; omega) ?hbind ?hloc ?_ ?hcell ?c2 ?c3 ?c4
  ((case ho => ((conv => lhs; whnf); (first | (conv in (occs := *) fd9 _ => all_goals whnf) | (conv in (occs := *) md9 _ _ => all_goals whnf)); (try dsimp only); exact rfl)); (case hcd => k_is); (case hbind => exact BindsTo.of_eq rfl); (case hloc => exact locs rfl); (case hcell => decide); (case c2 => exact rfl); (case c3 => exact rfl); (case c4 => exact rfl))
  intro g L h₁ S' hg hL F K1 env9 Q9 E9
  subst hg hL
  have X := S'.X
  have T := S'.T
  have N : News (hideAll s.heap [x, dx, l]) s.heap.objs.size h₁ [(x, rdObj dx), (dx, rdDict w.params l pl t1 t2 t3), (l, listOf vs.toArray n)] :=
    news1 K1 hx mw0 (news1 K1 hdx mw1 (news1 K1 hl mw2 News.nil))
  obtain ⟨d1, d2, d3⟩ := rd_ne hx hdx hl
  repeat' (first | (k_unfold; (try dsimp only)) | (k_end; kc_close) | (first | ((with_reducible show wpAny _ _ (call (Value.ref _) _ _) _ _ _); first | (k_here; (with_unfolding_all show wpAny _ _ (call (Value.ref 113) []) _ _ _); (refine' refuse_call ?k9S ?k9C ?k9F ?k9N ?k9hx ?k9hdx ?k9hl ?k9hroom ?k9hk ?_; (case k9C => assumption); (case k9S => assumption); (case k9F => k_asm); (case k9N => k_asm); (case k9hx => k_mem); (case k9hdx => k_mem); (case k9hl => k_mem); (case k9hroom => walk_at "m_rm"); (case k9hk => rfl)); (refine Stop.go ?_)) | (k_here; (with_unfolding_all show wpAny _ _ (call (Value.ref 134) [Value.ref _]) _ _ _); (refine' code_call ?k9S ?k9F ?k9N ?k9hx ?k9hdx ?k9hl ?k9hi ?k9hlen ?k9hp ?k9hA ?k9hroom ?_; (case k9F => k_asm); (case k9N => k_asm); (case k9S => assumption); (case k9hx => k_mem); (case k9hdx => k_mem); (case k9hl => k_mem); (case k9hi => assumption); (case k9hlen => assumption); (case k9hp => first | assumption | omega); (case k9hA => rfl); (case k9hroom => walk_at "m_rm"); k_whole); walk_at "t_code_call_134")) | ((with_reducible show wpAny _ _ (compareOp CmpOp.NotIn (Value.ref _) (Value.ref _)) _ _ _); k_here; (refine' notIn_lists3 ?k9k1 ?k9k2 ?k9k3 ?k9k4 ?k9k5 ?k9k6 ?k9k7 ?_; (case k9k1 => is_list); (case k9k2 => l_ints); (case k9k3 => exact News.get (by k_asm) (by k_mem)); (case k9k4 => exact News.get (by k_asm) (by k_mem)); (case k9k5 => exact News.get (by k_asm) (by k_mem)); (case k9k6 => exact News.get (by k_asm) (by k_mem)); (case k9k7 => units_room); k_whole))) | walk1 | (dsimp only; walk1) | (leave1; (try dsimp only)))
  all_goals (
    rename Fr _ _ _ _ => F'
    rename News _ _ _ _ => N'
    have kk := kp_sub (W' := []) (kp_of F') (rd_kept hx hdx hl N' (by k_mem) (by k_mem) (by k_mem)))
  · exact ret 10 (by rw [if_pos (by assumption)]) (by omega) _ _ _ kk
  · rename (List.any _ _ = true) => hm
    simp at hm
    exact ret _ (by rw [if_neg (by assumption)]) (hm.imp Eq.symm fun q => .inl q.symm) _ _ _ kk
  · rename (List.any _ _ = false) => hm
    simp at hm
    exact exn (fun q => q.elim (fun q => hm.1 q.symm) fun q => q.elim (fun q => hm.2 q.symm) (by assumption))

section
variable {w : World} {mean : ExcName → Option Value} {mg mb : Str → Option Value} {b g : Heap} {s₀ : Shared} {dp un tk : Nat} {fr : List Env} {gd : Option (List Code)} {W : List Addr} {h h' : Heap} {m : Str → Option Value} {x dx l L e : Addr} {pl c : Int} {t1 t2 t3 tc : Tok} {vs : List Value} {cs : List Int} {n : Nat}
  {news : List (Addr × Obj)} {name : Str} {scope : Scope} {a : Addr} {cd : Value} {R : Result → Shared → Prop}
theorem rd_off (N : News g L h news) (hx : (x, rdObj dx) ∈ news) {d : Obj} (hdx : (dx, d) ∈ news) (hl : (l, listOf vs.toArray n) ∈ news) : ∀ a ∈ [x, dx, l], a ≠ L := by
  intro z hz; simp at hz; rcases hz with rfl | rfl | rfl
  · exact (N _ hx).2.1
  · exact (N _ hdx).2.1
  · exact (N _ hl).2.1
theorem escaped_call (S : Sx w mean mg mb b) (C : Ctx b s₀.heap [x, dx, l] fr) (F : Fr (hideAll s₀.heap [x, dx, l]) s₀.heap.objs.size h m) (N : News (hideAll s₀.heap [x, dx, l]) s₀.heap.objs.size h news)
    (hx : (x, rdObj dx) ∈ news) (hdx : (dx, rdDict w.params l pl t1 t2 t3) ∈ news) (hl : (l, listOf vs.toArray n) ∈ news) (hi : IntsAre vs cs)
    (hlen : cs.length < 1000000) (hp : 0 ≤ pl) (hroom : dp + 50 < recursionLimit) (hu : un ≤ 8990) {Q : Value → Shared → Prop} (hk : scope.kind = .function)
    (k : ∀ d, d = (if codeAt cs pl = 110 then 10 else codeAt cs pl) → (codeAt cs pl = 34 ∨ codeAt cs pl = 92 ∨ codeAt cs pl = 110) → ∀ t h' tk, Fr (hideAll s₀.heap [x, dx, l]) s₀.heap.objs.size h' m → News (hideAll s₀.heap [x, dx, l]) s₀.heap.objs.size h' news → Q (.int d t) { s₀ with heap := h', toks := tk })
    (bad : ¬ (codeAt cs pl = 34 ∨ codeAt cs pl = 92 ∨ codeAt cs pl = 110) → ∀ e h' tk, Rz b fr e s₀.heap h' → R (.error (.ref e)) { s₀ with heap := h', toks := tk }) :
    wpAny (model PySem.Challenge.rw_on0064_01.row.prog w) ((⟨none, dp, some fr, gd, un⟩ : Around).deeper (envOf name scope s₀.heap.objs.size a cd)) (call (.ref 155) [.ref x]) Q
      (fun e s' => wpAny (model PySem.Challenge.rw_on0064_01.row.prog w) ((⟨none, dp, some fr, gd, un⟩ : Around).deeper (envOf name scope s₀.heap.objs.size a cd)) (leaving (envOf name scope s₀.heap.objs.size a cd) e) (fun _ s'' => R (.error e) s'') (fun e' s'' => R (.error e') s'') s')
      { s₀ with heap := h, toks := tk } := by
  have C' := C.callee (name := name) (scope := scope) (a := a) (cd := cd) F (rd_off N hx hdx hl) hk
  refine wpAny_call (escaped_spec S C' (N.get hx) (N.get hdx) (N.get hl) hi hlen hp (by show dp + 1 + 40 < _; omega) (by show un + 3 ≤ 9000; omega) ?_ ?_)
  · intro d e1 e2 t h' tk K
    exact k d e1 e2 t h' tk (Fr.kp0 F K) (News.kp0 N K)
  · intro hc e h' tk Z
    exact Ctx.on C F Z fun h'' tk' Z' => bad hc _ _ _ Z'
end
end

local macro_rules | `(tactic| walk_at "t_escaped_call_155") => `(tactic| (intro dd dd1 dd2 t h' tk F' N'; (try k_sweep)))
local macro_rules | `(tactic| walk_at "t_take_call_141") => `(tactic| (intro hc hlt t h' tk F' N'; (try k_sweep)))
section
theorem codeAt_cast {cs : List Int} {p : Nat} : codeAt cs (p : Int) = if p < cs.length then cs.getD p 0 else -1 := by
  unfold codeAt; simp only [Int.ofNat_lt, Int.toNat_natCast]
theorem codeAt_in {cs : List Int} {p : Nat} (h : codeAt cs (p : Int) ≠ -1) : p < cs.length ∧ cs.getD p 0 = codeAt cs (p : Int) := by
  rw [codeAt_cast] at h ⊢
  split at h
  · rename_i q; exact ⟨q, by rw [if_pos q]⟩
  · exact absurd rfl h
theorem codeAt_out {cs : List Int} {p : Nat} (hcs : ∀ c ∈ cs, 0 ≤ c) (h : codeAt cs (p : Int) = -1) : cs.length ≤ p := by
  rcases Nat.lt_or_ge p cs.length with q | q
  · rw [codeAt_cast, if_pos q] at h
    have := hcs (cs.getD p 0) (by simp [List.getD, q])
    omega
  · exact q
inductive TextI (w : World) (s : Shared) (x dx l : Addr) (at_ : Nat) (t1 t2 : Tok) (vs : List Value) (cs : List Int) (n : Nat) (k : Nat) (s' : Shared) : Prop
  | mk (h' : Heap) (tk : Nat) (m : Str → Option Value) (acc : List Int) (fa : Addr) (accv : List Value) (na p : Nat) (t3 : Tok) (e0 : s' = { s with heap := h', toks := tk }) (e1 : Fr (hideAll s.heap [x, dx, l]) s.heap.objs.size h' m) (e2 : m (Str.ofString "self") = some (.ref x)) (e3 : m (Str.ofString "found") = some (.ref fa)) (e4 : News (hideAll s.heap [x, dx, l]) s.heap.objs.size h' [(fa, listOf (List.toArray accv) na), (x, rdObj dx), (dx, rdDict w.params l ((p : Nat) : Int) t1 t2 t3), (l, listOf vs.toArray n)]) (e5 : @Ne Nat fa dx) (e6 : @Ne Nat fa x) (e7 : @Ne Nat fa l) (e8 : IntsAre accv acc) (e9 : p ≤ cs.length) (e10 : acc.length ≤ p) (e11 : k = cs.length - p) (e12 : QInv (quotedAt (cs.drop at_)) cs p acc) : TextI w s x dx l at_ t1 t2 vs cs n k s'
theorem text_spec {w : World} {mean mg mb} {b : Heap} {s : Shared} {dp un : Nat} {fr : List Env} {gd : Option (List Code)} {R : Result → Shared → Prop} {x dx l : Addr} {at_ : Nat} {t1 t2 t3 : Tok} {vs : List Value} {cs : List Int} {n : Nat}
    (S : Sx w mean mg mb b) (C : Ctx b s.heap [x, dx, l] fr)
    (hx : s.heap.get? x = some (rdObj dx)) (hdx : s.heap.get? dx = some (rdDict w.params l at_ t1 t2 t3)) (hl : s.heap.get? l = some (listOf vs.toArray n)) (hi : IntsAre vs cs)
    (hlen : cs.length < 1000000) (hcs : ∀ c ∈ cs, 0 ≤ c) (hat : at_ ≤ cs.length) (hroom : dp + 60 < recursionLimit) (hu : un ≤ 8980)
    (ret : ∀ f r, quotedAt (cs.drop at_) = some (f, r) → ∀ fa t3' h' tk vs' n', Kp [dx] s.heap h' → h'.get? dx = some (rdDict w.params l ((cs.length - r.length : Nat) : Int) t1 t2 t3') → s.heap.get? fa = none →
      h'.get? fa = some (listOf (List.toArray vs') n') → IntsAre vs' f → R (.ok (.ret (.ref fa))) { s with heap := h', toks := tk })
    (exn : quotedAt (cs.drop at_) = none → ∀ e h' tk, Rz b fr e s.heap h' → R (.error (.ref e)) { s with heap := h', toks := tk }) :
    codeAny (model PySem.Challenge.rw_on0064_01.row.prog w) ⟨none, dp, some fr, gd, un⟩ (.call (.ref 148) ⟨[.ref x], []⟩) R s := by
  (have KX9 : Fill Mine.hd.heap_39 PySem.Challenge.rw_on0064_01 := (by k_fill; exact trivial); clear KX9)
  refine' enter (binds := [(Str.ofString "self", .ref x)]) S C.stays [x, dx, l] C.out ?ho ?hcd (by show dp < _; omega) ?hbind ?hloc ?_ ?hcell ?c2 ?c3 ?c4
  ((case ho => ((conv => lhs; whnf); (first | (conv in (occs := *) fd9 _ => all_goals whnf) | (conv in (occs := *) md9 _ _ => all_goals whnf)); (try dsimp only); exact rfl)); (case hcd => k_is); (case hbind => exact BindsTo.of_eq rfl); (case hloc => exact locs rfl); (case hcell => decide); (case c2 => exact rfl); (case c3 => exact rfl); (case c4 => exact rfl))
  intro g L h₁ S' hg hL F K1 env9 Q9 E9
  subst hg hL
  have X := S'.X
  have T := S'.T
  have N : News (hideAll s.heap [x, dx, l]) s.heap.objs.size h₁ [(x, rdObj dx), (dx, rdDict w.params l at_ t1 t2 t3), (l, listOf vs.toArray n)] :=
    news1 K1 hx mw0 (news1 K1 hdx mw1 (news1 K1 hl mw2 News.nil))
  obtain ⟨d1, d2, d3⟩ := rd_ne hx hdx hl
  repeat' (first | (k_unfold; (try dsimp only)) | (k_end; kc_close) | (first | ((with_reducible show wpAny _ _ (call (Value.ref _) _ _) _ _ _); first | (k_here; (with_unfolding_all show wpAny _ _ (call (Value.ref 155) [Value.ref _]) _ _ _); (refine' escaped_call ?k9S ?k9C ?k9F ?k9N ?k9hx ?k9hdx ?k9hl ?k9hi ?k9hlen ?k9hp ?k9hroom ?k9hu ?k9hk ?_ ?_; (case k9C => assumption); (case k9S => assumption); (case k9F => k_asm); (case k9N => k_asm); (case k9hx => k_mem); (case k9hdx => k_mem); (case k9hl => k_mem); (case k9hi => assumption); (case k9hlen => assumption); (case k9hp => first | assumption | omega); (case k9hroom => walk_at "m_rm"); (case k9hu => walk_at "m_rm"); (case k9hk => rfl)); rotate_left; refine Stop.go ?_; rotate_right; walk_at "t_escaped_call_155") | (k_here; (with_unfolding_all show wpAny _ _ (call (Value.ref 113) []) _ _ _); (refine' refuse_call ?k9S ?k9C ?k9F ?k9N ?k9hx ?k9hdx ?k9hl ?k9hroom ?k9hk ?_; (case k9C => assumption); (case k9S => assumption); (case k9F => k_asm); (case k9N => k_asm); (case k9hx => k_mem); (case k9hdx => k_mem); (case k9hl => k_mem); (case k9hroom => walk_at "m_rm"); (case k9hk => rfl)); (refine Stop.go ?_)) | (k_here; (with_unfolding_all show wpAny _ _ (call (Value.ref 141) [Value.ref _, Value.int _ _]) _ _ _); (refine' take_call ?k9S ?k9C ?k9F ?k9N ?k9hx ?k9hl ?k9U ?k9hi ?k9hlen ?k9hp ?k9hpl ?k9hroom ?k9hk ?k9hc1 ?_ ?_; (case k9C => assumption); (case k9S => assumption); (case k9F => k_asm); (case k9N => k_asm); (case k9hx => k_mem); (case k9hl => k_mem); (case k9U => k_updF); (case k9hi => assumption); (case k9hlen => assumption); (case k9hp => first | assumption | omega); (case k9hpl => first | assumption | omega); (case k9hroom => walk_at "m_rm"); (case k9hk => rfl); (case k9hc1 => first | decide | assumption)); rotate_left; refine Stop.go ?_; rotate_right; walk_at "t_take_call_141") | (k_here; (with_unfolding_all show wpAny _ _ (call (Value.ref 134) [Value.ref _]) _ _ _); (refine' code_call ?k9S ?k9F ?k9N ?k9hx ?k9hdx ?k9hl ?k9hi ?k9hlen ?k9hp ?k9hA ?k9hroom ?_; (case k9F => k_asm); (case k9N => k_asm); (case k9S => assumption); (case k9hx => k_mem); (case k9hdx => k_mem); (case k9hl => k_mem); (case k9hi => assumption); (case k9hlen => assumption); (case k9hp => first | assumption | omega); (case k9hA => rfl); (case k9hroom => walk_at "m_rm"); k_whole); walk_at "t_code_call_134")) | ((with_reducible show wpAny _ _ (exec (Stmt.While _ _ _ _) _) _ _ _); with_reducible (with_reducible refine Stop.go ?_))) | walk1 | (dsimp only; walk1) | (leave1; (try dsimp only)))
  · refine Stop.go (while_rule (TextI w s x dx l at_ t1 t2 vs cs n) (cs.length - (at_ + 1)) ?_ ?_)
    · rename (codeAt _ _ = 34) => hs
      have e1 := codeAt_in (cs := cs) (p := at_) (by omega)
      have e2 := quotedAt_some (take1_at.mpr ⟨e1.1, e1.2.trans hs⟩)
      rename Fr _ _ _ _ => F'
      rename News _ _ _ _ => N'
      rename (_ < _ ∧ _ ∧ _) => l1
      refine ⟨_, _, _, [], _, [], 0, at_ + 1, _, rfl, F', rfl, rfl, News.sub N' (by k_allIn), Nat.ne_of_gt l1.2.1, Nat.ne_of_gt l1.1, Nat.ne_of_gt l1.2.2, .nil, by omega, by simp, rfl, ?_⟩
      rw [e2.1]; exact QInv.start _ _
    · rintro k s' ⟨h', tk, m, acc, fa, accv, na, p, t3, rfl, F2, m1, m2, N2, f1, f2, f3, ha, hp, hacc, rfl, hI⟩
      repeat' (first | (k_unfold; (try dsimp only)) | (k_end; kc_close) | (first | ((with_reducible show wpAny _ _ (call (Value.ref _) _ _) _ _ _); first | (k_here; (with_unfolding_all show wpAny _ _ (call (Value.ref 155) [Value.ref _]) _ _ _); (refine' escaped_call ?k9S ?k9C ?k9F ?k9N ?k9hx ?k9hdx ?k9hl ?k9hi ?k9hlen ?k9hp ?k9hroom ?k9hu ?k9hk ?_ ?_; (case k9C => assumption); (case k9S => assumption); (case k9F => k_asm); (case k9N => k_asm); (case k9hx => k_mem); (case k9hdx => k_mem); (case k9hl => k_mem); (case k9hi => assumption); (case k9hlen => assumption); (case k9hp => first | assumption | omega); (case k9hroom => walk_at "m_rm"); (case k9hu => walk_at "m_rm"); (case k9hk => rfl)); rotate_left; refine Stop.go ?_; rotate_right; walk_at "t_escaped_call_155") | (k_here; (with_unfolding_all show wpAny _ _ (call (Value.ref 113) []) _ _ _); (refine' refuse_call ?k9S ?k9C ?k9F ?k9N ?k9hx ?k9hdx ?k9hl ?k9hroom ?k9hk ?_; (case k9C => assumption); (case k9S => assumption); (case k9F => k_asm); (case k9N => k_asm); (case k9hx => k_mem); (case k9hdx => k_mem); (case k9hl => k_mem); (case k9hroom => walk_at "m_rm"); (case k9hk => rfl)); (refine Stop.go ?_)) | (k_here; (with_unfolding_all show wpAny _ _ (call (Value.ref 141) [Value.ref _, Value.int _ _]) _ _ _); (refine' take_call ?k9S ?k9C ?k9F ?k9N ?k9hx ?k9hl ?k9U ?k9hi ?k9hlen ?k9hp ?k9hpl ?k9hroom ?k9hk ?k9hc1 ?_ ?_; (case k9C => assumption); (case k9S => assumption); (case k9F => k_asm); (case k9N => k_asm); (case k9hx => k_mem); (case k9hl => k_mem); (case k9U => k_updF); (case k9hi => assumption); (case k9hlen => assumption); (case k9hp => first | assumption | omega); (case k9hpl => first | assumption | omega); (case k9hroom => walk_at "m_rm"); (case k9hk => rfl); (case k9hc1 => first | decide | assumption)); rotate_left; refine Stop.go ?_; rotate_right; walk_at "t_take_call_141") | (k_here; (with_unfolding_all show wpAny _ _ (call (Value.ref 134) [Value.ref _]) _ _ _); (refine' code_call ?k9S ?k9F ?k9N ?k9hx ?k9hdx ?k9hl ?k9hi ?k9hlen ?k9hp ?k9hA ?k9hroom ?_; (case k9F => k_asm); (case k9N => k_asm); (case k9S => assumption); (case k9hx => k_mem); (case k9hdx => k_mem); (case k9hl => k_mem); (case k9hi => assumption); (case k9hlen => assumption); (case k9hp => first | assumption | omega); (case k9hA => rfl); (case k9hroom => walk_at "m_rm"); k_whole); walk_at "t_code_call_134")) | ((with_reducible show wpAny _ _ (exec (Stmt.While _ _ _ _) _) _ _ _); with_reducible (with_reducible refine Stop.go ?_))) | walk1 | (dsimp only; walk1) | (leave1; (try dsimp only)))
      · rename (List.any _ _ = true) => hm
        simp at hm
        refine exn ?_
        rcases hm with hm | hm
        · exact hI.stop (codeAt_out hcs hm.symm)
        · have e1 := codeAt_in (cs := cs) (p := p) (by omega)
          exact hI.line e1.1 (by rw [e1.2]; exact hm.symm)
      · rename (codeAt _ _ = 92) => h92
        rename (_ = ite _ _ _) => hd1
        rename (_ ∨ _ ∨ _) => hd2
        rename Fr _ _ _ _ => F'
        rename News _ _ _ _ => N'
        have e1 := codeAt_in (cs := cs) (p := p) (by omega)
        have e2 := codeAt_in (cs := cs) (p := p + 1) (by rw [← cast1]; omega)
        rw [← cast1] at e2
        have hJ := hI.esc e1.1 (by rw [e1.2]; exact h92) e2.1 (by rw [e2.2]; exact hd2)
        rw [e2.2, ← hd1] at hJ
        exact ⟨cs.length - (p + 2), subS2 e2.1, _, _, _, acc ++ [_], fa, accv ++ [.int _ _], _, p + 2, _, rfl, F', by first | exact rfl | exact m1, by first | exact rfl | exact m2, snocNews (News.sub N' (by k_allIn)), f1, f2, f3, ksk_snoc ha, by omega, by simp; omega, rfl, hJ⟩
      · rename (codeAt _ _ = 92) => h92
        intro hd
        refine exn ?_
        have e1 := codeAt_in (cs := cs) (p := p) (by omega)
        by_cases hq : p + 1 < cs.length
        · have e2 : codeAt cs ((p : Int) + 1) = cs.getD (p + 1) 0 := by rw [cast1, codeAt_cast, if_pos hq]
          exact hI.escNo e1.1 (by rw [e1.2]; exact h92) hq (by rw [← e2]; exact hd)
        · exact hI.escEnd e1.1 (by rw [e1.2]; exact h92) (Nat.le_of_not_lt hq)
      · rename (codeAt _ _ ≠ 92) => h92
        rename (List.any _ _ = false) => hm
        simp at hm
        rename (codeAt _ _ ≠ 34) => h34
        rename Fr _ _ _ _ => F'
        rename News _ _ _ _ => N'
        have e1 := codeAt_in (cs := cs) (p := p) (by omega)
        have hJ := hI.plain e1.1 (by rw [e1.2]; exact h34) (by rw [e1.2]; exact fun q => hm.2 q.symm) (by rw [e1.2]; exact h92)
        rw [e1.2] at hJ
        exact ⟨cs.length - (p + 1), subS1 e1.1, _, _, _, acc ++ [_], fa, accv ++ [.int _ _], _, p + 1, _, rfl, F', by first | exact rfl | exact m1, by first | exact rfl | exact m2, snocNews (News.sub N' (by k_allIn)), f1, f2, f3, ksk_snoc ha, by omega, by simp; omega, rfl, hJ⟩
      · rename (codeAt _ _ = 34) => h34
        rename Fr _ _ _ _ => F'
        rename News _ _ _ _ => N'
        have e1 := codeAt_in (cs := cs) (p := p) (by omega)
        have hW := hI.close e1.1 (by rw [e1.2]; exact h34)
        have hd' := N'.get (List.Mem.tail _ (List.Mem.tail _ (List.Mem.head _)))
        rw [subBl1 e1.1] at hd'
        refine ret _ _ hW fa _ _ _ _ _ (kp_sub (kp_of F') (rd_kept2 hx hl N' (by k_mem) (by k_mem))) hd' (fresh_of N' (.head _) ?_) (N'.get (.head _)) ha
        simp; exact ⟨f2, f1, f3⟩
      · intro hn
        exact absurd (by assumption) hn
  · intro hn
    exact exn (quotedAt_none fun q => by
      have := take1_at.mp q
      exact hn (by rw [codeAt_cast, if_pos this.1]; exact this.2))
end

section
section
variable {w : World} {mean : ExcName → Option Value} {mg mb : Str → Option Value} {b g : Heap} {s₀ : Shared} {dp un tk : Nat} {fr : List Env} {gd : Option (List Code)} {W : List Addr} {h h' : Heap} {m : Str → Option Value} {x dx l L e : Addr} {pl c : Int} {t1 t2 t3 tc : Tok} {vs : List Value} {cs : List Int} {n : Nat}
  {news : List (Addr × Obj)} {name : Str} {scope : Scope} {a : Addr} {cd : Value} {R : Result → Shared → Prop}
noncomputable def AllNe (d : Addr) : List (Addr × Obj) → Prop
  | [] => True
  | p :: r => @Ne Nat p.1 d ∧ AllNe d r
theorem allNe_of {d : Addr} : ∀ {l : List (Addr × Obj)}, (∀ p ∈ l, p.1 ≠ d) → AllNe d l
  | [], _ => trivial
  | p :: _, h => ⟨h p (.head _), allNe_of fun q hq => h q (.tail _ hq)⟩
theorem text_call (S : Sx w mean mg mb b) (C : Ctx b s₀.heap [x, dx, l] fr) (F : Fr (hideAll s₀.heap [x, dx, l]) s₀.heap.objs.size h m) (N : News (hideAll s₀.heap [x, dx, l]) s₀.heap.objs.size h news)
    (hx : (x, rdObj dx) ∈ news) (hl : (l, listOf vs.toArray n) ∈ news) {G : Obj → List (Addr × Obj)} (U : UpdF dx (rdDict w.params l pl t1 t2 t3) news G) (hi : IntsAre vs cs)
    (hlen : cs.length < 1000000) (hcs : ∀ c ∈ cs, 0 ≤ c) (hp : 0 ≤ pl) (hpl : pl ≤ cs.length) (hroom : dp + 70 < recursionLimit) (hu : un ≤ 8970) {Q : Value → Shared → Prop} (hk : scope.kind = .function)
    (k : ∀ f r, quotedAt (cs.drop pl.toNat) = some (f, r) → r.length ≤ cs.length → ∀ fa t h' tk vs' n', AllNe fa (G (rdDict w.params l ((cs.length - r.length : Nat) : Int) t1 t2 t)) → IntsAre vs' f → Fr (hideAll s₀.heap [x, dx, l]) s₀.heap.objs.size h' m → News (hideAll s₀.heap [x, dx, l]) s₀.heap.objs.size h' ((fa, listOf (List.toArray vs') n') :: G (rdDict w.params l ((cs.length - r.length : Nat) : Int) t1 t2 t)) → Q (.ref fa) { s₀ with heap := h', toks := tk })
    (bad : quotedAt (cs.drop pl.toNat) = none → ∀ e h' tk, Rz b fr e s₀.heap h' → R (.error (.ref e)) { s₀ with heap := h', toks := tk }) :
    wpAny (model PySem.Challenge.rw_on0064_01.row.prog w) ((⟨none, dp, some fr, gd, un⟩ : Around).deeper (envOf name scope s₀.heap.objs.size a cd)) (call (.ref 148) [.ref x]) Q
      (fun e s' => wpAny (model PySem.Challenge.rw_on0064_01.row.prog w) ((⟨none, dp, some fr, gd, un⟩ : Around).deeper (envOf name scope s₀.heap.objs.size a cd)) (leaving (envOf name scope s₀.heap.objs.size a cd) e) (fun _ s'' => R (.error e) s'') (fun e' s'' => R (.error e') s'') s')
      { s₀ with heap := h, toks := tk } := by
  have hdx : (dx, rdDict w.params l pl t1 t2 t3) ∈ news := by
    obtain ⟨pre, post, rfl, _⟩ := U.split
    exact List.mem_append_right _ (.head _)
  have C' := C.callee (name := name) (scope := scope) (a := a) (cd := cd) F (rd_off N hx hdx hl) hk
  obtain ⟨at_, rfl⟩ := Int.eq_ofNat_of_zero_le hp
  refine wpAny_call (text_spec S C' (N.get hx) (N.get hdx) (N.get hl) hi hlen hcs (by omega) (by show dp + 1 + 60 < _; omega) (by show un + 3 ≤ 8980; omega) ?_ ?_)
  · intro f r hq fa t h' tk vs' n' K hd' hn hfa hi'
    have hr : r.length ≤ cs.length := by
      have : quotedAt (cs.drop at_) = some (f, r) := hq
      unfold quotedAt at this
      split at this
      · cases this
      · rename_i c' r' e
        split at this
        · have := (quotedF_suffix _ _ _ _ (Nat.le_refl _) this).1
          have e2 : (cs.drop at_).length = r'.length + 1 := by rw [e]; rfl
          rw [List.length_drop] at e2; omega
        · cases this
    have N' := News.updF N U K hd'
    have F' := Fr.kp F K (by simpa using (N _ hdx).2.1.symm) (by simpa using (N _ hdx).2.2)
    have hne : ∀ p ∈ G (rdDict w.params l ((cs.length - r.length : Nat) : Int) t1 t2 t), p.1 ≠ fa := by
      intro p hp q
      obtain ⟨pre, post, e1, e2, _, _⟩ := U.split
      rw [e2] at hp
      have : ∃ o, h.get? p.1 = some o := by
        rcases List.mem_append.mp hp with z | z
        · exact ⟨_, (N p (by rw [e1]; exact List.mem_append_left _ z)).1⟩
        · rcases List.mem_cons.mp z with rfl | z
          · exact ⟨_, N.get hdx⟩
          · exact ⟨_, (N p (by rw [e1]; exact List.mem_append_right _ (.tail _ z))).1⟩
      obtain ⟨o, z⟩ := this
      rw [q] at z; dsimp only at hn; rw [hn] at z; cases z
    refine k f r hq hr fa t h' tk vs' n' (allNe_of hne) hi' F' ?_
    intro p hp
    rcases List.mem_cons.mp hp with rfl | hp
    · refine ⟨hfa, ?_, ?_⟩
      · rintro rfl; obtain ⟨oL, _, _, eL, _⟩ := F.ns; dsimp only at hn; rw [hn] at eL; cases eL
      · exact fresh_of_stays (fun b o q => F.keep b o q) hn
    · exact N' p hp
  · intro hc e h' tk Z
    exact Ctx.on C F Z fun h'' tk' Z' => bad hc _ _ _ Z'
end

noncomputable def isDig (c : Int) : Bool := decide (48 ≤ c) && decide (c ≤ 57)
noncomputable def digs (cs : List Int) : List Int := cs.takeWhile isDig
noncomputable def valD (a : Int) : List Int → Int
  | [] => a
  | c :: r => valD (10 * a + c - 48) r
theorem valD_snoc (a : Int) (l : List Int) (c : Int) : valD a (l ++ [c]) = 10 * valD a l + c - 48 := by
  induction l generalizing a with
  | nil => rfl
  | cons d r ih => exact ih _
noncomputable def numAt (cs : List Int) : Option (Int × List Int) :=
  if digs cs = [] ∨ ((digs cs).head? = some 48 ∧ 1 < (digs cs).length) then none else some (valD 0 (digs cs), cs.drop (digs cs).length)

theorem digs_cons_dig {c : Int} {r : List Int} (h1 : 48 ≤ c) (h2 : c ≤ 57) : digs (c :: r) = c :: digs r := by
  unfold digs; rw [List.takeWhile_cons, if_pos]; simp [isDig, h1, h2]
theorem digs_cons_not {c : Int} {r : List Int} (h : ¬ (48 ≤ c ∧ c ≤ 57)) : digs (c :: r) = [] := by
  unfold digs; rw [List.takeWhile_cons, if_neg]; simp [isDig]; omega
theorem dig_go {cs : List Int} {p : Nat} (h1 : 48 ≤ codeAt cs (p : Int)) (h2 : codeAt cs (p : Int) ≤ 57) : p < cs.length ∧ digs (cs.drop p) = codeAt cs (p : Int) :: digs (cs.drop (p + 1)) := by
  have e := codeAt_in (cs := cs) (p := p) (by omega)
  refine ⟨e.1, ?_⟩
  rw [drop_cons e.1, e.2]; exact digs_cons_dig h1 h2
theorem dig_stop {cs : List Int} {p : Nat} (h : ¬ (48 ≤ codeAt cs (p : Int) ∧ codeAt cs (p : Int) ≤ 57)) : digs (cs.drop p) = [] := by
  by_cases hp : p < cs.length
  · rw [drop_cons hp]; rw [codeAt_cast, if_pos hp] at h; exact digs_cons_not h
  · rw [drop_nil (by omega)]; rfl
theorem digs_head {l : List Int} (h : digs l ≠ []) : (digs l).head? = l.head? := by
  cases l with
  | nil => exact absurd rfl h
  | cons c r =>
    by_cases q : 48 ≤ c ∧ c ≤ 57
    · rw [digs_cons_dig q.1 q.2]; rfl
    · exact absurd (digs_cons_not q) h
theorem drop_head {cs : List Int} {p : Nat} (h : p < cs.length) : (cs.drop p).head? = some (cs.getD p 0) := by rw [drop_cons h]; rfl

inductive NumI (w : World) (s : Shared) (x dx l : Addr) (at_ : Nat) (t1 t2 : Tok) (vs : List Value) (cs : List Int) (n : Nat) (k : Nat) (s' : Shared) : Prop
  | mk (h' : Heap) (tk : Nat) (m : Str → Option Value) (acc : List Int) (p : Nat) (t3 : Tok) (t4 : Tok) (t5 : Tok) (v : Int) (e0 : s' = { s with heap := h', toks := tk }) (e1 : Fr (hideAll s.heap [x, dx, l]) s.heap.objs.size h' m) (e2 : m (Str.ofString "self") = some (.ref x)) (e3 : m (Str.ofString "begin") = some (.int at_ t4)) (e4 : m (Str.ofString "found") = some (.int v t5)) (e5 : v = valD 0 acc) (e6 : News (hideAll s.heap [x, dx, l]) s.heap.objs.size h' [(x, rdObj dx), (dx, rdDict w.params l ((p : Nat) : Int) t1 t2 t3), (l, listOf vs.toArray n)]) (e7 : p ≤ cs.length) (e8 : p = at_ + acc.length) (e9 : k = cs.length - p) (e10 : digs (cs.drop at_) = acc ++ digs (cs.drop p)) : NumI w s x dx l at_ t1 t2 vs cs n k s'
theorem number_spec {w : World} {mean mg mb} {b : Heap} {s : Shared} {dp un : Nat} {fr : List Env} {gd : Option (List Code)} {R : Result → Shared → Prop} {x dx l : Addr} {at_ : Nat} {t1 t2 t3 : Tok} {vs : List Value} {cs : List Int} {n : Nat}
    (S : Sx w mean mg mb b) (C : Ctx b s.heap [x, dx, l] fr)
    (hx : s.heap.get? x = some (rdObj dx)) (hdx : s.heap.get? dx = some (rdDict w.params l at_ t1 t2 t3)) (hl : s.heap.get? l = some (listOf vs.toArray n)) (hi : IntsAre vs cs)
    (hlen : cs.length < 1000000) (hat : at_ ≤ cs.length) (hroom : dp + 60 < recursionLimit) (hu : un ≤ 8980)
    (ret : ∀ u r, numAt (cs.drop at_) = some (u, r) → ∀ t t3' h' tk, Kp [dx] s.heap h' → h'.get? dx = some (rdDict w.params l ((cs.length - r.length : Nat) : Int) t1 t2 t3') → R (.ok (.ret (.int u t))) { s with heap := h', toks := tk })
    (exn : numAt (cs.drop at_) = none → ∀ e h' tk, Rz b fr e s.heap h' → R (.error (.ref e)) { s with heap := h', toks := tk }) :
    codeAny (model PySem.Challenge.rw_on0064_01.row.prog w) ⟨none, dp, some fr, gd, un⟩ (.call (.ref 162) ⟨[.ref x], []⟩) R s := by
  (have KX9 : Fill Mine.hd.heap_39 PySem.Challenge.rw_on0064_01 := (by k_fill; exact trivial); clear KX9)
  refine' enter (binds := [(Str.ofString "self", .ref x)]) S C.stays [x, dx, l] C.out ?ho ?hcd (by show dp < _; omega) ?hbind ?hloc ?_ ?hcell ?c2 ?c3 ?c4
  ((case ho => ((conv => lhs; whnf); (first | (conv in (occs := *) fd9 _ => all_goals whnf) | (conv in (occs := *) md9 _ _ => all_goals whnf)); (try dsimp only); exact rfl)); (case hcd => k_is); (case hbind => exact BindsTo.of_eq rfl); (case hloc => exact locs rfl); (case hcell => decide); (case c2 => exact rfl); (case c3 => exact rfl); (case c4 => exact rfl))
  intro g L h₁ S' hg hL F K1 env9 Q9 E9
  subst hg hL
  have X := S'.X
  have T := S'.T
  have N : News (hideAll s.heap [x, dx, l]) s.heap.objs.size h₁ [(x, rdObj dx), (dx, rdDict w.params l at_ t1 t2 t3), (l, listOf vs.toArray n)] :=
    news1 K1 hx mw0 (news1 K1 hdx mw1 (news1 K1 hl mw2 News.nil))
  obtain ⟨d1, d2, d3⟩ := rd_ne hx hdx hl
  repeat' (first | (k_unfold; (try dsimp only)) | (k_end; kc_close) | (first | ((with_reducible show wpAny _ _ (call (Value.ref _) _ _) _ _ _); first | (k_here; (with_unfolding_all show wpAny _ _ (call (Value.ref 113) []) _ _ _); (refine' refuse_call ?k9S ?k9C ?k9F ?k9N ?k9hx ?k9hdx ?k9hl ?k9hroom ?k9hk ?_; (case k9C => assumption); (case k9S => assumption); (case k9F => k_asm); (case k9N => k_asm); (case k9hx => k_mem); (case k9hdx => k_mem); (case k9hl => k_mem); (case k9hroom => walk_at "m_rm"); (case k9hk => rfl)); (refine Stop.go ?_)) | (k_here; (with_unfolding_all show wpAny _ _ (call (Value.ref 134) [Value.ref _]) _ _ _); (refine' code_call ?k9S ?k9F ?k9N ?k9hx ?k9hdx ?k9hl ?k9hi ?k9hlen ?k9hp ?k9hA ?k9hroom ?_; (case k9F => k_asm); (case k9N => k_asm); (case k9S => assumption); (case k9hx => k_mem); (case k9hdx => k_mem); (case k9hl => k_mem); (case k9hi => assumption); (case k9hlen => assumption); (case k9hp => first | assumption | omega); (case k9hA => rfl); (case k9hroom => walk_at "m_rm"); k_whole); walk_at "t_code_call_134")) | ((with_reducible show wpAny _ _ (exec (Stmt.While _ _ _ _) _) _ _ _); with_reducible (with_reducible refine Stop.go ?_))) | walk1 | (dsimp only; walk1) | (leave1; (try dsimp only)))
  · refine Stop.go (while_rule (NumI w s x dx l at_ t1 t2 vs cs n) (cs.length - at_) ?_ ?_)
    · rename Fr _ _ _ _ => F'
      rename News _ _ _ _ => N'
      exact ⟨_, _, _, [], at_, _, _, _, _, rfl, F', rfl, rfl, rfl, rfl, N', hat, by simp, rfl, by simp⟩
    · rintro k s' ⟨h', tk, m, acc, p, t3, t4, t5, v, rfl, F2, m1, m2, m3, rfl, N2, hp, hacc, rfl, hI⟩
      repeat' (first | (k_unfold; (try dsimp only)) | (k_end; kc_close) | (first | ((with_reducible show wpAny _ _ (call (Value.ref _) _ _) _ _ _); first | (k_here; (with_unfolding_all show wpAny _ _ (call (Value.ref 113) []) _ _ _); (refine' refuse_call ?k9S ?k9C ?k9F ?k9N ?k9hx ?k9hdx ?k9hl ?k9hroom ?k9hk ?_; (case k9C => assumption); (case k9S => assumption); (case k9F => k_asm); (case k9N => k_asm); (case k9hx => k_mem); (case k9hdx => k_mem); (case k9hl => k_mem); (case k9hroom => walk_at "m_rm"); (case k9hk => rfl)); (refine Stop.go ?_)) | (k_here; (with_unfolding_all show wpAny _ _ (call (Value.ref 134) [Value.ref _]) _ _ _); (refine' code_call ?k9S ?k9F ?k9N ?k9hx ?k9hdx ?k9hl ?k9hi ?k9hlen ?k9hp ?k9hA ?k9hroom ?_; (case k9F => k_asm); (case k9N => k_asm); (case k9S => assumption); (case k9hx => k_mem); (case k9hdx => k_mem); (case k9hl => k_mem); (case k9hi => assumption); (case k9hlen => assumption); (case k9hp => first | assumption | omega); (case k9hA => rfl); (case k9hroom => walk_at "m_rm"); k_whole); walk_at "t_code_call_134")) | ((with_reducible show wpAny _ _ (exec (Stmt.While _ _ _ _) _) _ _ _); with_reducible (with_reducible refine Stop.go ?_))) | walk1 | (dsimp only; walk1) | (leave1; (try dsimp only)))
      · rename Fr _ _ _ _ => F'
        rename News _ _ _ _ => N'
        have e1 := dig_go (cs := cs) (p := p) (by omega) (by omega)
        refine ⟨cs.length - (p + 1), subS1 (by omega), _, _, _, acc ++ [codeAt cs (p : Int)], p + 1, _, _, _, _, rfl, F', by first | exact rfl | exact m1, by first | exact rfl | exact m2, rfl, ?_, N', by omega, by simp; omega, rfl, ?_⟩
        · rw [valD_snoc]
        · rw [hI, e1.2]; simp
      all_goals (
        have hz : digs (cs.drop p) = [] := dig_stop (by omega)
        rw [hz, List.append_nil] at hI
        first | rename (codeAt _ _ ≤ 57) => hgone | skip)
      any_goals (
        refine exn ?_
        first
        | (have ha : acc = [] := List.length_eq_zero_iff.mp (by omega)
           unfold numAt; rw [hI, if_pos (.inl ha)])
        | (have hne : digs (cs.drop at_) ≠ [] := by rw [hI]; intro q; rw [q] at hacc; simp at hacc; omega
           have h48 := digs_head hne
           rw [drop_head (by omega), hI] at h48
           unfold numAt
           rw [hI, if_pos (.inr ⟨by rw [h48]; exact congrArg some (by assumption), by omega⟩)]))
      all_goals (
        rename Fr _ _ _ _ => F'
        rename News _ _ _ _ => N'
        have hd' := N'.get (List.Mem.tail _ (List.Mem.head _))
        rw [show (p : Int) = ((cs.length - (cs.drop p).length : Nat) : Int) from subBl hp] at hd'
        have hne : digs (cs.drop at_) ≠ [] := by rw [hI]; intro q; rw [q] at hacc; simp at hacc; omega
        have h48 := digs_head hne
        rw [drop_head (by omega), hI] at h48
        refine ret _ (cs.drop p) ?_ _ _ _ _ (kp_sub (kp_of F') (rd_kept2 hx hl N' (by k_mem) (by k_mem))) hd'
        unfold numAt
        rw [hI, if_neg]
        · rw [List.drop_drop, hacc]
        · rw [h48, Option.some.injEq]
          rw [hI] at hne
          rintro (q | ⟨q, q'⟩)
          · exact hne q
          · first | exact absurd q (by assumption) | omega)
end

section
theorem neAll_of {d : Addr} : ∀ {l : List (Addr × Obj)}, AllNe d l → NeAll d l
  | [], _ => trivial
  | [_], h => h.1
  | _ :: _ :: _, h => ⟨h.1, neAll_of h.2⟩
theorem neAll_to {d : Addr} : ∀ {l : List (Addr × Obj)}, NeAll d l → AllNe d l
  | [], _ => trivial
  | [_], h => ⟨h, trivial⟩
  | _ :: _ :: _, h => ⟨h.1, neAll_to h.2⟩
end

section
section
variable {w : World} {mean : ExcName → Option Value} {mg mb : Str → Option Value} {b g : Heap} {s₀ : Shared} {dp un tk : Nat} {fr : List Env} {gd : Option (List Code)} {W : List Addr} {h h' : Heap} {m : Str → Option Value} {x dx l L e : Addr} {pl c : Int} {t1 t2 t3 tc : Tok} {vs : List Value} {cs : List Int} {n : Nat}
  {news : List (Addr × Obj)} {name : Str} {scope : Scope} {a : Addr} {cd : Value} {R : Result → Shared → Prop}
theorem number_call (S : Sx w mean mg mb b) (C : Ctx b s₀.heap [x, dx, l] fr) (F : Fr (hideAll s₀.heap [x, dx, l]) s₀.heap.objs.size h m) (N : News (hideAll s₀.heap [x, dx, l]) s₀.heap.objs.size h news)
    (hx : (x, rdObj dx) ∈ news) (hl : (l, listOf vs.toArray n) ∈ news) {G : Obj → List (Addr × Obj)} (U : UpdF dx (rdDict w.params l pl t1 t2 t3) news G) (hi : IntsAre vs cs)
    (hlen : cs.length < 1000000) (hp : 0 ≤ pl) (hpl : pl ≤ cs.length) (hroom : dp + 70 < recursionLimit) (hu : un ≤ 8970) {Q : Value → Shared → Prop} (hk : scope.kind = .function)
    (k : ∀ u r, numAt (cs.drop pl.toNat) = some (u, r) → r.length ≤ cs.length → ∀ t t' h' tk, Fr (hideAll s₀.heap [x, dx, l]) s₀.heap.objs.size h' m → News (hideAll s₀.heap [x, dx, l]) s₀.heap.objs.size h' (G (rdDict w.params l ((cs.length - r.length : Nat) : Int) t1 t2 t')) → Q (.int u t) { s₀ with heap := h', toks := tk })
    (bad : numAt (cs.drop pl.toNat) = none → ∀ e h' tk, Rz b fr e s₀.heap h' → R (.error (.ref e)) { s₀ with heap := h', toks := tk }) :
    wpAny (model PySem.Challenge.rw_on0064_01.row.prog w) ((⟨none, dp, some fr, gd, un⟩ : Around).deeper (envOf name scope s₀.heap.objs.size a cd)) (call (.ref 162) [.ref x]) Q
      (fun e s' => wpAny (model PySem.Challenge.rw_on0064_01.row.prog w) ((⟨none, dp, some fr, gd, un⟩ : Around).deeper (envOf name scope s₀.heap.objs.size a cd)) (leaving (envOf name scope s₀.heap.objs.size a cd) e) (fun _ s'' => R (.error e) s'') (fun e' s'' => R (.error e') s'') s')
      { s₀ with heap := h, toks := tk } := by
  have hdx : (dx, rdDict w.params l pl t1 t2 t3) ∈ news := by
    obtain ⟨pre, post, rfl, _⟩ := U.split
    exact List.mem_append_right _ (.head _)
  have C' := C.callee (name := name) (scope := scope) (a := a) (cd := cd) F (rd_off N hx hdx hl) hk
  obtain ⟨at_, rfl⟩ := Int.eq_ofNat_of_zero_le hp
  refine wpAny_call (number_spec S C' (N.get hx) (N.get hdx) (N.get hl) hi hlen (by omega) (by show dp + 1 + 60 < _; omega) (by show un + 3 ≤ 8980; omega) ?_ ?_)
  · intro u r hq t t' h' tk K hd'
    have hr : r.length ≤ cs.length := by
      have : numAt (cs.drop at_) = some (u, r) := hq
      unfold numAt at this
      split at this
      · cases this
      · simp only [Option.some.injEq, Prod.mk.injEq] at this
        rw [← this.2]; simp only [List.length_drop]; omega
    exact k u r hq hr t t' h' tk (Fr.kp F K (by simpa using (N _ hdx).2.1.symm) (by simpa using (N _ hdx).2.2)) (News.updF N U K hd')
  · intro hc e h' tk Z
    exact Ctx.on C F Z fun h'' tk' Z' => bad hc _ _ _ Z'
end
end

section
theorem exact82 {w : World} {h : Heap} (X : (hd.heap_39 w.params).In h) : h.IsList 82 (List.toArray [.int 101 307, .int 120 308, .int 97 309, .int 99 310, .int 116 311]) := by
  (have KX9 : Fill Mine.hd.heap_39 PySem.Challenge.rw_on0064_01 := (by k_fill; exact trivial); clear KX9)
  exact ⟨_, X 82 _ (by k_is), rfl, _, rfl⟩

noncomputable abbrev abObj (dx : Addr) : Obj := instObj 31 dx
noncomputable abbrev abDict (P : Params) (w c : Addr) (e : Bool) (u : Int) (t1 t2 t3 t4 t5 : Tok) : Obj :=
  dictOf [⟨PyData.keyHash P (Str.ofString "word"), .str (Str.ofString "word") t1, .ref w⟩, ⟨PyData.keyHash P (Str.ofString "codes"), .str (Str.ofString "codes") t2, .ref c⟩, ⟨PyData.keyHash P (Str.ofString "is_exact"), .str (Str.ofString "is_exact") t3, .bool e⟩, ⟨PyData.keyHash P (Str.ofString "used"), .str (Str.ofString "used") t4, .int u t5⟩] 4
noncomputable abbrev tbObj (dx : Addr) : Obj := instObj 52 dx
noncomputable abbrev tbDict (P : Params) (nm : Str) (pa en : Addr) (t0 t1 t2 t3 t4 : Tok) : Obj :=
  dictOf [⟨PyData.keyHash P (Str.ofString "name"), .str (Str.ofString "name") t1, .str nm t0⟩, ⟨PyData.keyHash P (Str.ofString "parents"), .str (Str.ofString "parents") t2, .ref pa⟩, ⟨PyData.keyHash P (Str.ofString "entries"), .str (Str.ofString "entries") t3, .ref en⟩, ⟨PyData.keyHash P (Str.ofString "is_all_great"), .str (Str.ofString "is_all_great") t4, .bool false⟩] 4

theorem abbrev_init {w : World} {mean mg mb} {b : Heap} {s : Shared} {dp un : Nat} {fr : Option (List Env)} {gd : Option (List Code)} {R : Result → Shared → Prop} {x dx a1 a2 : Addr} {e : Bool}
    (S : Sx w mean mg mb b) (hb : b.StaysIn s.heap) (hW : ∀ a ∈ [x, dx], b.get? a = none) (hroom : dp < recursionLimit) (hxd : @LT.lt Nat _ dx x)
    (hx : s.heap.get? x = some (instObj 31 dx)) (hdx : s.heap.get? dx = some (dictOf [] 0))
    (ret : ∀ t1 t2 t3 t4 t5 h' tk, Kp [dx] s.heap h' → h'.get? dx = some (abDict w.params a1 a2 e 0 t1 t2 t3 t4 t5) → R (.ok (.ret .none)) { s with heap := h', toks := tk }) :
    codeAny (model PySem.Challenge.rw_on0064_01.row.prog w) ⟨none, dp, fr, gd, un⟩ (.call (.ref 28) ⟨[.ref x, .ref a1, .ref a2, .bool e], []⟩) R s := by
  (have KX9 : Fill Mine.hd.heap_39 PySem.Challenge.rw_on0064_01 := (by k_fill; exact trivial); clear KX9)
  refine' enter (binds := [(Str.ofString "self", .ref x), (Str.ofString "word", .ref a1), (Str.ofString "codes", .ref a2), (Str.ofString "is_exact", .bool e)]) S hb [x, dx] hW ?ho ?hcd hroom ?hbind ?hloc ?_ ?hcell ?c2 ?c3 ?c4
  ((case ho => ((conv => lhs; whnf); (first | (conv in (occs := *) fd9 _ => all_goals whnf) | (conv in (occs := *) md9 _ _ => all_goals whnf)); (try dsimp only); exact rfl)); (case hcd => k_is); (case hbind => exact BindsTo.of_eq rfl); (case hloc => exact locs rfl); (case hcell => decide); (case c2 => exact rfl); (case c3 => exact rfl); (case c4 => exact rfl))
  intro g L h₁ S' hg hL F K1 env9 Q9 E9
  subst hg hL
  have X := S'.X
  have T := S'.T
  have N : News (hideAll s.heap [x, dx]) s.heap.objs.size h₁ [(x, instObj 31 dx), (dx, dictOf [] 0)] :=
    news1 K1 hx mw0 (news1 K1 hdx mw1 News.nil)
  repeat' (first | (k_unfold; (try dsimp only)) | (k_end; kc_close) | walk1 | (dsimp only; walk1) | (leave1; (try dsimp only)))
  rename Fr _ _ _ _ => F'
  rename News _ _ _ _ => N'
  refine ret _ _ _ _ _ _ _ (kp_sub (kp_of F') ?_) (N'.get (.tail _ (.head _)))
  intro a ha hn o q
  simp at ha hn
  rcases ha with rfl | rfl
  · rw [hx] at q; cases q; exact N'.get (.head _)
  · exact absurd rfl hn

theorem reading_init {w : World} {mean mg mb} {b : Heap} {s : Shared} {dp un : Nat} {fr : Option (List Env)} {gd : Option (List Code)} {R : Result → Shared → Prop} {x dx l : Addr}
    (S : Sx w mean mg mb b) (hb : b.StaysIn s.heap) (hW : ∀ a ∈ [x, dx], b.get? a = none) (hroom : dp < recursionLimit) (hxd : @LT.lt Nat _ dx x)
    (hx : s.heap.get? x = some (instObj 172 dx)) (hdx : s.heap.get? dx = some (dictOf [] 0))
    (ret : ∀ t1 t2 t3 h' tk, Kp [dx] s.heap h' → h'.get? dx = some (rdDict w.params l 0 t1 t2 t3) → R (.ok (.ret .none)) { s with heap := h', toks := tk }) :
    codeAny (model PySem.Challenge.rw_on0064_01.row.prog w) ⟨none, dp, fr, gd, un⟩ (.call (.ref 127) ⟨[.ref x, .ref l], []⟩) R s := by
  (have KX9 : Fill Mine.hd.heap_39 PySem.Challenge.rw_on0064_01 := (by k_fill; exact trivial); clear KX9)
  refine' enter (binds := [(Str.ofString "self", .ref x), (Str.ofString "codes", .ref l)]) S hb [x, dx] hW ?ho ?hcd hroom ?hbind ?hloc ?_ ?hcell ?c2 ?c3 ?c4
  ((case ho => ((conv => lhs; whnf); (first | (conv in (occs := *) fd9 _ => all_goals whnf) | (conv in (occs := *) md9 _ _ => all_goals whnf)); (try dsimp only); exact rfl)); (case hcd => k_is); (case hbind => exact BindsTo.of_eq rfl); (case hloc => exact locs rfl); (case hcell => decide); (case c2 => exact rfl); (case c3 => exact rfl); (case c4 => exact rfl))
  intro g L h₁ S' hg hL F K1 env9 Q9 E9
  subst hg hL
  have X := S'.X
  have T := S'.T
  have N : News (hideAll s.heap [x, dx]) s.heap.objs.size h₁ [(x, instObj 172 dx), (dx, dictOf [] 0)] :=
    news1 K1 hx mw0 (news1 K1 hdx mw1 News.nil)
  repeat' (first | (k_unfold; (try dsimp only)) | (k_end; kc_close) | walk1 | (dsimp only; walk1) | (leave1; (try dsimp only)))
  rename Fr _ _ _ _ => F'
  rename News _ _ _ _ => N'
  refine ret _ _ _ _ _ (kp_sub (kp_of F') ?_) (N'.get (.tail _ (.head _)))
  intro a ha hn o q
  simp at ha hn
  rcases ha with rfl | rfl
  · rw [hx] at q; cases q; exact N'.get (.head _)
  · exact absurd rfl hn

theorem table_init {w : World} {mean mg mb} {b : Heap} {s : Shared} {dp un : Nat} {fr : Option (List Env)} {gd : Option (List Code)} {R : Result → Shared → Prop} {x dx l : Addr} {nm : Str} {t0 : Tok}
    (S : Sx w mean mg mb b) (hb : b.StaysIn s.heap) (hW : ∀ a ∈ [x, dx], b.get? a = none) (hroom : dp < recursionLimit) (hxd : @LT.lt Nat _ dx x)
    (hx : s.heap.get? x = some (instObj 52 dx)) (hdx : s.heap.get? dx = some (dictOf [] 0))
    (ret : ∀ en t1 t2 t3 t4 h' tk, Kp [dx] s.heap h' → h'.get? dx = some (tbDict w.params nm l en t0 t1 t2 t3 t4) → (en == sysModules) = false → s.heap.get? en = none → ∀ oE, h'.get? en = some oE → oE.IsDictOf (PySem.strKind PySem.Challenge.rw_on0064_01.row.prog w) [] → R (.ok (.ret .none)) { s with heap := h', toks := tk }) :
    codeAny (model PySem.Challenge.rw_on0064_01.row.prog w) ⟨none, dp, fr, gd, un⟩ (.call (.ref 49) ⟨[.ref x, .str nm t0, .ref l], []⟩) R s := by
  (have KX9 : Fill Mine.hd.heap_39 PySem.Challenge.rw_on0064_01 := (by k_fill; exact trivial); clear KX9)
  refine' enter (binds := [(Str.ofString "self", .ref x), (Str.ofString "name", .str nm t0), (Str.ofString "parents", .ref l)]) S hb [x, dx] hW ?ho ?hcd hroom ?hbind ?hloc ?_ ?hcell ?c2 ?c3 ?c4
  ((case ho => ((conv => lhs; whnf); (first | (conv in (occs := *) fd9 _ => all_goals whnf) | (conv in (occs := *) md9 _ _ => all_goals whnf)); (try dsimp only); exact rfl)); (case hcd => k_is); (case hbind => exact BindsTo.of_eq rfl); (case hloc => exact locs rfl); (case hcell => decide); (case c2 => exact rfl); (case c3 => exact rfl); (case c4 => exact rfl))
  intro g L h₁ S' hg hL F K1 env9 Q9 E9
  subst hg hL
  have X := S'.X
  have T := S'.T
  have N : News (hideAll s.heap [x, dx]) s.heap.objs.size h₁ [(x, instObj 52 dx), (dx, dictOf [] 0)] :=
    news1 K1 hx mw0 (news1 K1 hdx mw1 News.nil)
  repeat' (first | (k_unfold; (try dsimp only)) | (k_end; kc_close) | walk1 | (dsimp only; walk1) | (leave1; (try dsimp only)))
  rename Fr _ _ _ _ => F'
  rename News _ _ _ _ => N'
  rename ((_ == sysModules) = false) => lo
  rename (Obj.IsDictOf (PySem.strKind _ _) _ _) => hs
  rename (_ < _ ∧ _ < _) => l1
  refine ret _ _ _ _ _ _ _ (kp_sub (kp_of F') ?_) (N'.get (.tail _ (.tail _ (.head _)))) lo (fresh_of N' (.head _) ?_) _ (N'.get (.head _)) hs
  · intro a ha hn o q
    simp at ha hn
    rcases ha with rfl | rfl
    · rw [hx] at q; cases q; exact N'.get (.tail _ (.head _))
    · exact absurd rfl hn
  · intro q
    simp at q
    rcases q with q | q
    · exact Nat.ne_of_gt l1.1 q
    · exact Nat.ne_of_gt l1.2 q

section
variable {w : World} {mean : ExcName → Option Value} {mg mb : Str → Option Value} {g : Heap} {s : Shared} {A : Around} {dp un tk : Nat} {fr : Option (List Env)} {gd : Option (List Code)} {m : Str → Option Value} {L l a1 a2 : Addr} {e : Bool} {nm : Str} {t0 : Tok}
  {news : List (Addr × Obj)} {E : Value → Shared → Prop} {Q : Value → Shared → Prop}

theorem made_kept {x dx : Addr} {o oD oD' : Obj} {h h' : Heap} (F : Fr g L h m) (N : News g L h ((x, o) :: (dx, oD) :: news)) (hlt : ∀ p ∈ news, p.1 < dx) (hx : dx < x) (K : Kp [dx] h h') (e : h'.get? dx = some oD') :
    Fr g L h' m ∧ News g L h' ((x, o) :: (dx, oD') :: news) := by
  have hdx := N _ (.tail _ (.head _))
  refine ⟨Fr.kp F K (by simpa using hdx.2.1.symm) (by simpa using hdx.2.2), ?_⟩
  intro p hp
  rcases List.mem_cons.mp hp with rfl | hp
  · have z := N _ (.head _)
    exact ⟨K.2 _ _ (by simpa using Nat.ne_of_gt hx) z.1, z.2⟩
  · rcases List.mem_cons.mp hp with rfl | hp
    · exact ⟨e, hdx.2⟩
    · have z := N p (.tail _ (.tail _ hp))
      exact ⟨K.2 _ _ (by simpa using Nat.ne_of_lt (hlt p hp)) z.1, z.2⟩

theorem abbrev_call (S : Sx w mean mg mb g) (F : Fr g L s.heap m) (N : News g L s.heap news) (hA : A = ⟨none, dp, fr, gd, un⟩) (hroom : dp + 10 < recursionLimit)
    (k : ∀ x dx t1 t2 t3 t4 t5 h' tk, (∀ p ∈ news, p.1 < dx) → dx < x → Fr g L h' m → News g L h' ((x, abObj dx) :: (dx, abDict w.params a1 a2 e 0 t1 t2 t3 t4 t5) :: news) → Q (.ref x) { s with heap := h', toks := tk }) :
    wpAny (model PySem.Challenge.rw_on0064_01.row.prog w) A (call (.ref 31) [.ref a1, .ref a2, .bool e]) Q E s := by
  (have KX9 : Fill Mine.hd.heap_39 PySem.Challenge.rw_on0064_01 := (by k_fill; exact trivial); clear KX9)
  subst hA
  refine call_cls (K := hd.heap_39 w.params) (fI := 28) F S.X N (by k_is) (by k_is) (by k_is) ?_
  intro x dx h₁ F₁ N₁ hlt hx
  refine abbrev_init S F₁.keep ?_ ?_ hx (N₁.get (.head _)) (N₁.get (.tail _ (.head _))) ?_
  · intro a ha; simp at ha; rcases ha with rfl | rfl
    · exact (N₁ _ (.head _)).2.2
    · exact (N₁ _ (.tail _ (.head _))).2.2
  · exact Nat.lt_of_le_of_lt (Nat.add_le_add_left (k := dp) (m := 9) (Nat.le_of_ble_eq_true rfl)) (by omega)
  · intro t1 t2 t3 t4 t5 h' tk K e
    obtain ⟨F₂, N₂⟩ := made_kept F₁ N₁ hlt hx K e
    exact ⟨rfl, k x dx t1 t2 t3 t4 t5 h' tk hlt hx F₂ N₂⟩

theorem reading_call (S : Sx w mean mg mb g) (F : Fr g L s.heap m) (N : News g L s.heap news) (hA : A = ⟨none, dp, fr, gd, un⟩) (hroom : dp + 10 < recursionLimit)
    (k : ∀ x dx t1 t2 t3 h' tk, (∀ p ∈ news, p.1 < dx) → dx < x → Fr g L h' m → News g L h' ((x, rdObj dx) :: (dx, rdDict w.params l 0 t1 t2 t3) :: news) → Q (.ref x) { s with heap := h', toks := tk }) :
    wpAny (model PySem.Challenge.rw_on0064_01.row.prog w) A (call (.ref 172) [.ref l]) Q E s := by
  (have KX9 : Fill Mine.hd.heap_39 PySem.Challenge.rw_on0064_01 := (by k_fill; exact trivial); clear KX9)
  subst hA
  refine call_cls (K := hd.heap_39 w.params) (fI := 127) F S.X N (by k_is) (by k_is) (by k_is) ?_
  intro x dx h₁ F₁ N₁ hlt hx
  refine reading_init S F₁.keep ?_ ?_ hx (N₁.get (.head _)) (N₁.get (.tail _ (.head _))) ?_
  · intro a ha; simp at ha; rcases ha with rfl | rfl
    · exact (N₁ _ (.head _)).2.2
    · exact (N₁ _ (.tail _ (.head _))).2.2
  · exact Nat.lt_of_le_of_lt (Nat.add_le_add_left (k := dp) (m := 9) (Nat.le_of_ble_eq_true rfl)) (by omega)
  · intro t1 t2 t3 h' tk K e
    obtain ⟨F₂, N₂⟩ := made_kept F₁ N₁ hlt hx K e
    exact ⟨rfl, k x dx t1 t2 t3 h' tk hlt hx F₂ N₂⟩

theorem table_call (S : Sx w mean mg mb g) (F : Fr g L s.heap m) (N : News g L s.heap news) (hA : A = ⟨none, dp, fr, gd, un⟩) (hroom : dp + 10 < recursionLimit)
    (k : ∀ x dx en t1 t2 t3 t4 oE h' tk, (∀ p ∈ news, p.1 < dx) → dx < x → (@Ne Nat x en ∧ @Ne Nat dx en) → AllNe en news → (en == sysModules) = false → oE.IsDictOf (PySem.strKind PySem.Challenge.rw_on0064_01.row.prog w) [] → Fr g L h' m → News g L h' ((en, oE) :: (x, tbObj dx) :: (dx, tbDict w.params nm l en t0 t1 t2 t3 t4) :: news) → Q (.ref x) { s with heap := h', toks := tk }) :
    wpAny (model PySem.Challenge.rw_on0064_01.row.prog w) A (call (.ref 52) [.str nm t0, .ref l]) Q E s := by
  (have KX9 : Fill Mine.hd.heap_39 PySem.Challenge.rw_on0064_01 := (by k_fill; exact trivial); clear KX9)
  subst hA
  refine call_cls (K := hd.heap_39 w.params) (fI := 49) F S.X N (by k_is) (by k_is) (by k_is) ?_
  intro x dx h₁ F₁ N₁ hlt hx
  refine table_init S F₁.keep ?_ ?_ hx (N₁.get (.head _)) (N₁.get (.tail _ (.head _))) ?_
  · intro a ha; simp at ha; rcases ha with rfl | rfl
    · exact (N₁ _ (.head _)).2.2
    · exact (N₁ _ (.tail _ (.head _))).2.2
  · exact Nat.lt_of_le_of_lt (Nat.add_le_add_left (k := dp) (m := 9) (Nat.le_of_ble_eq_true rfl)) (by omega)
  · intro en t1 t2 t3 t4 h' tk K e hm hn oE hE hD
    obtain ⟨F₂, N₂⟩ := made_kept F₁ N₁ hlt hx K e
    have ne : ∀ {a : Addr} {o : Obj}, h₁.get? a = some o → @Ne Nat a en := by
      rintro a o q rfl; dsimp only at hn; rw [hn] at q; cases q
    refine ⟨rfl, k x dx en t1 t2 t3 t4 oE h' tk hlt hx ⟨ne (N₁.get (.head _)), ne (N₁.get (.tail _ (.head _)))⟩ (allNe_of fun p hp => ne (N₁ p (.tail _ (.tail _ hp))).1) hm hD F₂ ?_⟩
    intro p hp
    rcases List.mem_cons.mp hp with rfl | hp
    · refine ⟨hE, ?_, fresh_of_stays (fun b o q => F₁.keep b o q) hn⟩
      obtain ⟨oL, _, _, eL, _⟩ := F₁.ns
      exact (ne eL).symm
    · exact N₂ p hp
end
end

section
section
variable {M : Model} {A : Around} {s : Shared} {env : Env} {E : Value → Shared → Prop}
theorem For_mine {target iter body orelse pos} {Q : Flow → Shared → Prop}
    (h : wpAny M A (eval iter env) (fun x s₁ => Stop (wpAny M A (pyIter x) (fun it s₂ =>
      codeAny M A (.forLoop target it body orelse env) (fun r s' => match r with | .ok f => Q f s' | .error e => cameBackBy M A env E e s') s₂) E s₁)) E s)
    (hs : ∀ x, foldedSetIterable iter env x = pure x) :
    wpAny M A (exec (.For target iter body orelse pos) env) Q E s := wpAny_For (wpAny_mono h (fun _ _ q => q) fun _ _ q => q) hs
end
section
variable {prog : Program} {w : World} {A : Around} {s : Shared} {g : Heap} {env : Env}

inductive ForNext (g : Heap) (L : Addr) (I : Addr) (oI : Obj) (s₂ : Shared) (Jn : (Str → Option Value) → List (Addr × Obj) → Prop) (s₃ : Shared) : Prop
  | mk (h' : Heap) (tk : Nat) (m' : Str → Option Value) (news' : List (Addr × Obj)) (e0 : s₃ = { s₂ with heap := h', toks := tk }) (e1 : Fr g L h' m') (e2 : News g L h' ((I, oI) :: news')) (e3 : AllNe I news') (e4 : Jn m' news') : ForNext g L I oI s₂ Jn s₃
noncomputable def ForStep (g : Heap) (L : Addr) (I : Addr) (oI : Obj) (s₂ : Shared) (Jn : (Str → Option Value) → List (Addr × Obj) → Prop) (Q : Flow → Shared → Prop) (f : Flow) (s₃ : Shared) : Prop :=
  match f with
  | .ret v => Q (.ret v) s₃
  | .brk => Q .next s₃
  | _ => ForNext g L I oI s₂ Jn s₃

theorem ForStep.at {g : Heap} {L I : Addr} {oI : Obj} {s₂ : Shared} {Jn : (Str → Option Value) → List (Addr × Obj) → Prop} {Q : Flow → Shared → Prop} {f : Flow} {s₃ : Shared} {H : Heap}
    (q : ForStep g L I oI s₂ Jn Q f s₃) : ForStep g L I oI { s₂ with heap := H } Jn Q f s₃ := by
  cases f with
  | ret v => exact q
  | brk => exact q
  | next => obtain ⟨h', tk, m', n', e, a, b, c, d⟩ := q; exact ForNext.mk h' tk m' n' e a b c d
  | cont => obtain ⟨h', tk, m', n', e, a, b, c, d⟩ := q; exact ForNext.mk h' tk m' n' e a b c d
theorem AllNe.all {I : Addr} : ∀ {l : List (Addr × Obj)}, AllNe I l → ∀ p ∈ l, p.1 ≠ I
  | [], _, _, hp => nomatch hp
  | p :: r, ⟨a, b⟩, q, hq => by
    rcases List.mem_cons.mp hq with rfl | hq
    · exact a
    · exact AllNe.all b q hq

inductive FwI (g : Heap) (L : Addr) (s : Shared) (I : Addr) (n : Nat) (St : Nat → Heap → Prop) (J : Nat → (Str → Option Value) → List (Addr × Obj) → Prop) (k : Nat) (s' : Shared) : Prop
  | mk (h : Heap) (tk : Nat) (m' : Str → Option Value) (news' : List (Addr × Obj)) (i : Nat) (e0 : s' = { s with heap := h, toks := tk }) (e1 : St i h) (e2 : Fr g L h m') (e3 : News g L h news') (e4 : AllNe I news') (e5 : J i m' news') (e6 : i ≤ n) (e7 : k = n - i) : FwI g L s I n St J k s'
theorem for_walk {E : Value → Shared → Prop} {Q : Flow → Shared → Prop} {x : Str} {body : List Stmt} {I : Addr} {fp : List Addr} {n : Nat} {P : Nat → Value → Prop} {St : Nat → Heap → Prop} {m : Str → Option Value} {news : List (Addr × Obj)} {px : Pos}
    (J : Nat → (Str → Option Value) → List (Addr × Obj) → Prop)
    (W : Walks prog w A I fp [I] n P St) (hx : env.kindOf x = some .local) (hp : (env.scope.kind == .class || (env.scope.kind == .module && env.locals != env.globals)) = false)
    (hI : g.get? I = none) (hL : env.locals ≠ I) (hLf : env.locals ∉ fp)
    (hfp : ∀ b ∈ fp, b = I ∨ (∃ o, g.get? b = some o) ∨ (∃ o, ∀ i m nw, J i m nw → (b, o) ∈ nw))
    (hst : St 0 s.heap) (F : Fr g env.locals s.heap m) (N : News g env.locals s.heap news) (hne : AllNe I news) (h0 : J 0 m news) (hIo : ∃ o, s.heap.get? I = some o)
    (hIx : ∀ i h, St i h → ∃ o, h.get? I = some o)
    (step : ∀ i v m₁ news₁ oI h tk, i < n → P i v → J i m₁ news₁ → AllNe I news₁ → Fr g env.locals h (fun y => if y = x then some v else m₁ y) → News g env.locals h ((I, oI) :: news₁) →
      wpAny (model prog w) A (execs body env) (ForStep g env.locals I oI s (J (i + 1)) Q) E { s with heap := h, toks := tk })
    (done : ∀ h tk m' news', Fr g env.locals h m' → News g env.locals h news' → J n m' news' → Q .next { s with heap := h, toks := tk })
    (hE : PassesOwn (model prog w) A env E) :
    codeAny (model prog w) A (.forLoop (.Name x px) (.ref I) body [] env) (fun r s' => match r with | .ok f => Q f s' | .error e => cameBackBy (model prog w) A env E e s') s := by
  refine codeAny_forLoop (FwI g env.locals s I n St J) ?_ n
    ⟨s.heap, s.toks, m, news, 0, rfl, hst, F, N, hne, h0, Nat.zero_le _, rfl⟩
  rintro k s' ⟨h, tk, m', news', i, rfl, hst', F', N', hne', hJ, hi, rfl⟩
  have keepF : ∀ h₁, (∀ b o, b ∉ [I] → h.get? b = some o → h₁.get? b = some o) → Fr g env.locals h₁ m' ∧ News g env.locals h₁ news' := by
    intro h₁ hk
    obtain ⟨oL, e1, e2, eL, e3⟩ := F'.ns
    refine ⟨⟨⟨oL, e1, e2, hk _ _ (by simpa using hL) eL, e3⟩, fun b o q => hk _ _ ?_ (F'.keep b o q), F'.above⟩, fun p hp' => ⟨hk _ _ (by simpa using hne'.all p hp') (N' p hp').1, (N' p hp').2⟩⟩
    simp; rintro rfl; rw [hI] at q; cases q
  by_cases hin : i < n
  · refine W.item i _ _ _ hin hst' fun v h₁ tk₁ hv hst₁ hk => ?_
    obtain ⟨F₁, N₁⟩ := keepF h₁ hk
    refine wpAny_assign_Name (wpAny_storeName_local hx F₁.ns (fun h₂ hn₂ hs₂ => ?_) hp)
    have F₂ := F₁.set hn₂ hs₂
    have N₂ := N₁.set hs₂
    obtain ⟨oI, eI⟩ := hIx _ _ hst₁
    have eI₂ : h₂.get? I = some oI := (hs₂.2 I (Ne.symm hL)).trans eI
    have hst₂ : St (i + 1) h₂ := W.frame _ _ _ hst₁ fun b hb o e => (hs₂.2 b fun q => hLf (q ▸ hb)).trans e
    have N₃ : News g env.locals h₂ ((I, oI) :: news') := by
      intro p hp'
      rcases List.mem_cons.mp hp' with rfl | hp'
      · exact ⟨eI₂, Ne.symm hL, hI⟩
      · exact N₂ p hp'
    refine wpAny_passesOwn hE (wpAny_mono (step i v m' news' oI h₂ _ hin hv hJ hne' F₂ N₃) (fun f s₃ q => ?_) fun _ _ e => e)
    have go : ForNext g env.locals I oI s (J (i + 1)) s₃ → ∃ k', k' < n - i ∧ FwI g env.locals s I n St J k' s₃ := by
      rintro ⟨h₄, tk₄, m₄, news₄, rfl, F₄, N₄, hne₄, hJ₄⟩
      refine ⟨n - (i + 1), by omega, h₄, tk₄, m₄, news₄, i + 1, rfl, ?_, F₄, fun p hp' => N₄ p (.tail _ hp'), hne₄, hJ₄, by omega, rfl⟩
      refine W.frame _ _ _ hst₂ fun b hb o e => ?_
      rcases hfp b hb with rfl | ⟨o', q⟩ | ⟨o', q⟩
      · rw [eI₂] at e; cases e; exact N₄.get (.head _)
      · rw [F₂.keep _ _ q] at e; cases e; exact F₄.keep _ _ q
      · rw [N₃.get (.tail _ (q _ _ _ hJ))] at e; cases e; exact N₄.get (.tail _ (q _ _ _ hJ₄))
    cases f with
    | next => exact go q
    | cont => exact go q
    | brk => exact q
    | ret v => exact q
  · obtain rfl : i = n := by omega
    refine W.done _ _ _ hst' fun h₁ tk₁ hk => wpAny_execs_nil ?_
    obtain ⟨F₁, N₁⟩ := keepF h₁ hk
    exact done h₁ tk₁ m' news' F₁ N₁ hJ

noncomputable def HOk (hd : Option Value) (h : Heap) : Prop := hd = none ∨ ∃ ex o vs, hd = some (.ref ex) ∧ h.get? ex = some o ∧ o.data = .fields vs ∧ vs[2]? = some .none

theorem for_list {E : Value → Shared → Prop} {Q : Flow → Shared → Prop} {x : Str} {body : List Stmt} {D : Addr} {items : Array Value} {n : Nat} {m : Str → Option Value} {news : List (Addr × Obj)} {px : Pos}
    (J : Nat → (Str → Option Value) → List (Addr × Obj) → Prop) (hh : A.handled = none)
    (F : Fr g env.locals s.heap m) (N : News g env.locals s.heap news) (hD : s.heap.IsList D items) (hDk : (∃ o, g.get? D = some o) ∨ (∃ o, ∀ i m nw, J i m nw → (D, o) ∈ nw))
    (h0 : J 0 m news)
    (step : ∀ I i v m₁ news₁ oI h tk, (hi : items[i]? = some v) → J i m₁ news₁ → AllNe I news₁ → Fr g env.locals h (fun y => if y = x then some v else m₁ y) → News g env.locals h ((I, oI) :: news₁) →
      wpAny (model prog w) A (execs body env) (ForStep g env.locals I oI s (J (i + 1)) Q) E { s with heap := h, toks := tk })
    (done : ∀ h tk m' news', Fr g env.locals h m' → News g env.locals h news' → J n m' news' → Q .next { s with heap := h, toks := tk })
    (hx : env.kindOf x = some .local) (hp : (env.scope.kind == .class || (env.scope.kind == .module && env.locals != env.globals)) = false)
    (hE : PassesOwn (model prog w) A env E) (hn : items.size = n) :
    wpAny (model prog w) A (pyIter (.ref D)) (fun it s₂ => codeAny (model prog w) A (.forLoop (.Name x px) it body [] env) (fun r s' => match r with | .ok f => Q f s' | .error e => cameBackBy (model prog w) A env E e s') s₂) E s := by
  subst hn
  have hDI : D ≠ s.heap.objs.size := by obtain ⟨o, e, _⟩ := hD; exact Nat.ne_of_lt (Heap.lt_size e)
  have hLI : env.locals ≠ s.heap.objs.size := Nat.ne_of_lt F.ns.lt
  have hLD : env.locals ≠ D := by
    rintro q
    obtain ⟨o, es, ep, e, hd, _⟩ := F.ns
    obtain ⟨o', e', _, n', hd'⟩ := hD
    rw [q, e'] at e; cases e; rw [hd'] at hd; cases hd
  refine wpAny_pyIter_list hD ?_
  refine for_walk (s := { s with heap := s.heap.push { cls := .type "list_iterator", data := .fields #[.ref D, .int 0 0] } }) J (Walks.list hh _ D hDI items) hx hp ?_ hLI (by simpa using ⟨hLI, hLD⟩) ?_ ?_ (F.push _) ?_ ?_ h0 ⟨_, Heap.get?_push_size _ rfl⟩ (fun i h st => by obtain ⟨o, e, _⟩ := st.1; exact ⟨o, e⟩) ?_ ?_ hE
  · exact fresh_of_stays (fun b o q => F.keep b o q) (Heap.get?_none_of_le (Nat.le_refl _))
  · intro b hb; simp at hb; rcases hb with rfl | rfl
    · exact .inl rfl
    · rcases hDk with q | q
      · exact .inr (.inl q)
      · exact .inr (.inr q)
  · exact ⟨⟨_, Heap.get?_push_size _ rfl, rfl, rfl⟩, hD.push _⟩
  · intro p hp'; exact ⟨Heap.get?_push_of_some _ (N p hp').1, (N p hp').2⟩
  · exact allNe_of fun p hp' => Nat.ne_of_lt (Heap.lt_size (N p hp').1)
  · intro i v m₁ news₁ oI h tk hi hv hJ hne F₁ N₁
    exact wpAny_mono (step _ i v m₁ news₁ oI h tk hv hJ hne F₁ N₁) (fun _ _ q => q.at) fun _ _ e => e
  · intro h tk m' news' F₁ N₁ hJ
    exact done h tk m' news' F₁ N₁ hJ
end
end

section
noncomputable abbrev Ent := List Int × Int × List Int × Bool

noncomputable def exactAt (cs : List Int) (p : Nat) : Bool := codeAt cs ((p : Nat) : Int) == 32 && codeAt cs ((p + 1 : Nat) : Int) == 101 && codeAt cs ((p + 2 : Nat) : Int) == 120 && codeAt cs ((p + 3 : Nat) : Int) == 97 && codeAt cs ((p + 4 : Nat) : Int) == 99 && codeAt cs ((p + 5 : Nat) : Int) == 116 && codeAt cs ((p + 6 : Nat) : Int) == 10

noncomputable def entryEnd (cs : List Int) (w : List Int) (u : Int) (t : List Int) (p : Nat) : Option (Ent × Nat) :=
  if codeAt cs ((p : Nat) : Int) = 32 then (if exactAt cs p = true then some ((w, u, t, true), p + 7) else none)
  else if codeAt cs ((p : Nat) : Int) = 10 then some ((w, u, t, false), p + 1) else none

noncomputable def entryAt (cs : List Int) (at_ : Nat) : Option (Ent × Nat) :=
  match quotedAt (cs.drop at_) with
  | none => none
  | some (w, r1) => if codeAt cs ((cs.length - r1.length : Nat) : Int) = 32 then
    (match numAt (cs.drop (cs.length - r1.length + 1)) with
    | none => none
    | some (u, r3) => if codeAt cs ((cs.length - r3.length : Nat) : Int) = 32 then
      (match quotedAt (cs.drop (cs.length - r3.length + 1)) with
      | none => none
      | some (t, r5) => entryEnd cs w u t (cs.length - r5.length)) else none) else none

section
variable {cs w r1 r3 t r5 : List Int} {at_ : Nat} {u : Int}
theorem entryAt_1 (h : quotedAt (cs.drop at_) = none) : entryAt cs at_ = none := by unfold entryAt; rw [h]
theorem entryAt_2 (h : quotedAt (cs.drop at_) = some (w, r1)) (h1 : codeAt cs ((cs.length - r1.length : Nat) : Int) ≠ 32) : entryAt cs at_ = none := by
  unfold entryAt; rw [h]; dsimp only; rw [if_neg h1]
theorem entryAt_3 (h : quotedAt (cs.drop at_) = some (w, r1)) (h1 : codeAt cs ((cs.length - r1.length : Nat) : Int) = 32) (h2 : numAt (cs.drop (((cs.length - r1.length : Nat) : Int) + 1).toNat) = none) : entryAt cs at_ = none := by
  unfold entryAt; rw [h]; dsimp only; rw [if_pos h1]
  rw [show (((cs.length - r1.length : Nat) : Int) + 1).toNat = cs.length - r1.length + 1 from rfl] at h2; rw [h2]
theorem entryAt_4 (h : quotedAt (cs.drop at_) = some (w, r1)) (h1 : codeAt cs ((cs.length - r1.length : Nat) : Int) = 32) (h2 : numAt (cs.drop (((cs.length - r1.length : Nat) : Int) + 1).toNat) = some (u, r3)) (h3 : codeAt cs ((cs.length - r3.length : Nat) : Int) ≠ 32) : entryAt cs at_ = none := by
  unfold entryAt; rw [h]; dsimp only; rw [if_pos h1]
  rw [show (((cs.length - r1.length : Nat) : Int) + 1).toNat = cs.length - r1.length + 1 from rfl] at h2; rw [h2]; dsimp only; rw [if_neg h3]
theorem entryAt_5 (h : quotedAt (cs.drop at_) = some (w, r1)) (h1 : codeAt cs ((cs.length - r1.length : Nat) : Int) = 32) (h2 : numAt (cs.drop (((cs.length - r1.length : Nat) : Int) + 1).toNat) = some (u, r3)) (h3 : codeAt cs ((cs.length - r3.length : Nat) : Int) = 32)
    (h4 : quotedAt (cs.drop (((cs.length - r3.length : Nat) : Int) + 1).toNat) = none) : entryAt cs at_ = none := by
  unfold entryAt; rw [h]; dsimp only; rw [if_pos h1]
  rw [show (((cs.length - r1.length : Nat) : Int) + 1).toNat = cs.length - r1.length + 1 from rfl] at h2; rw [h2]; dsimp only; rw [if_pos h3]
  rw [show (((cs.length - r3.length : Nat) : Int) + 1).toNat = cs.length - r3.length + 1 from rfl] at h4; rw [h4]
theorem entryAt_6 (h : quotedAt (cs.drop at_) = some (w, r1)) (h1 : codeAt cs ((cs.length - r1.length : Nat) : Int) = 32) (h2 : numAt (cs.drop (((cs.length - r1.length : Nat) : Int) + 1).toNat) = some (u, r3)) (h3 : codeAt cs ((cs.length - r3.length : Nat) : Int) = 32)
    (h4 : quotedAt (cs.drop (((cs.length - r3.length : Nat) : Int) + 1).toNat) = some (t, r5)) : entryAt cs at_ = entryEnd cs w u t (cs.length - r5.length) := by
  unfold entryAt; rw [h]; dsimp only; rw [if_pos h1]
  rw [show (((cs.length - r1.length : Nat) : Int) + 1).toNat = cs.length - r1.length + 1 from rfl] at h2; rw [h2]; dsimp only; rw [if_pos h3]
  rw [show (((cs.length - r3.length : Nat) : Int) + 1).toNat = cs.length - r3.length + 1 from rfl] at h4; rw [h4]
end

noncomputable def ex6 : List Int := [32, 101, 120, 97, 99, 116]
theorem ex6_at {a b c d e f : Tok} {i : Nat} {v : Value} (h : (#[Value.int 32 a, Value.int 101 b, Value.int 120 c, Value.int 97 d, Value.int 99 e, Value.int 116 f] : Array Value)[i]? = some v) :
    ∃ k t, v = .int k t ∧ k = ex6.getD i 0 ∧ i < 6 ∧ k ≠ -1 := by
  match i, h with
  | 0, h => simp at h; exact ⟨_, _, h.symm, rfl, by omega, by omega⟩
  | 1, h => simp at h; exact ⟨_, _, h.symm, rfl, by omega, by omega⟩
  | 2, h => simp at h; exact ⟨_, _, h.symm, rfl, by omega, by omega⟩
  | 3, h => simp at h; exact ⟨_, _, h.symm, rfl, by omega, by omega⟩
  | 4, h => simp at h; exact ⟨_, _, h.symm, rfl, by omega, by omega⟩
  | 5, h => simp at h; exact ⟨_, _, h.symm, rfl, by omega, by omega⟩
  | n + 6, h => simp at h
theorem exact_of {cs : List Int} {p : Nat} (h : ∀ j < 6, codeAt cs (((p + j : Nat)) : Int) = ex6.getD j 0) : exactAt cs p = decide (codeAt cs ((p + 6 : Nat) : Int) = 10) := by
  have h0 := h 0 (by omega); have h1 := h 1 (by omega); have h2 := h 2 (by omega); have h3 := h 3 (by omega); have h4 := h 4 (by omega); have h5 := h 5 (by omega)
  simp only [ex6, List.getD_cons_zero, List.getD_cons_succ, Nat.add_zero] at h0 h1 h2 h3 h4 h5
  unfold exactAt
  rw [h0, h1, h2, h3, h4, h5]
  generalize codeAt cs ((p + 6 : Nat) : Int) = a
  by_cases q : a = 10 <;> simp [q]
theorem exact_not {cs : List Int} {p i : Nat} (hi : i < 6) (h : codeAt cs (((p + i : Nat)) : Int) ≠ ex6.getD i 0) : exactAt cs p = false := by
  unfold exactAt
  rw [Bool.eq_false_iff]
  intro e
  simp only [Bool.and_eq_true, beq_iff_eq] at e
  obtain ⟨⟨⟨⟨⟨⟨e0, e1⟩, e2⟩, e3⟩, e4⟩, e5⟩, e6⟩ := e
  match i, hi, h with
  | 0, _, h => exact h e0
  | 1, _, h => exact h e1
  | 2, _, h => exact h e2
  | 3, _, h => exact h e3
  | 4, _, h => exact h e4
  | 5, _, h => exact h e5
end

local macro_rules | `(tactic| walk_at "t_abbrev_call_31") => `(tactic| (intro ax adx t1 t2 t3 t4 t5 h' tk l1 l2 F' N'; (k_lt l1); (k_lt2 l2); (try k_sweep)))
local macro_rules | `(tactic| walk_at "t_number_call_162") => `(tactic| (intro tf tr tq tl tt t' h' tk F' N'; (try k_sweep)))
local macro_rules | `(tactic| walk_at "t_text_call_148") => `(tactic| (intro tf tr tq tl fa tt h' tk vs' n' hne hi' F' N'; (try k_sweep); (first | (replace hne := neAll_of hne; dsimp only [NeAll] at hne; fail_if_success (unfold NeAll at hne)) | simp only [AllNe, and_true] at hne)))
section
theorem notin3 {a x dx l : Addr} (h1 : @Ne Nat a x) (h2 : @Ne Nat a dx) (h3 : @Ne Nat a l) : a ∉ [x, dx, l] := by
  simp; exact ⟨h1, h2, h3⟩
theorem ForStep.mk {g : Heap} {L I : Addr} {oI : Obj} {s₂ : Shared} {Jn : (Str → Option Value) → List (Addr × Obj) → Prop} {Q : Flow → Shared → Prop} {h' : Heap} {tk : Nat} {m' : Str → Option Value} {news' : List (Addr × Obj)}
    (F : Fr g L h' m') (N : News g L h' ((I, oI) :: news')) (n : AllNe I news') (j : Jn m' news') : ForStep g L I oI s₂ Jn Q .next { s₂ with heap := h', toks := tk } := ⟨_, _, _, _, rfl, F, N, n, j⟩
inductive R8I (w : World) (x dx l fa1 fa2 l' D' : Addr) (u : Int) (tu t1 t2 : Tok) (cs r5 : List Int) (vs vs1 vs2 : List Value) (n n1 n2 : Nat) (i : Nat) (m : Str → Option Value) (nw : List (Addr × Obj)) : Prop
  | mk (e0 : m (Str.ofString "self") = some (.ref x)) (e1 : m (Str.ofString "word") = some (.ref fa1)) (e2 : m (Str.ofString "used") = some (.int u tu)) (e3 : m (Str.ofString "codes") = some (.ref fa2)) (e4 : m (Str.ofString "is_exact") = some (.bool (codeAt cs ((cs.length - r5.length : Nat) : Int) == 32))) (t3' : Tok) (e5 : nw = [(D', listOf #[.int 32 303, .int 101 307, .int 120 308, .int 97 309, .int 99 310, .int 116 311] 0), (l', listOf #[.int 32 303] 0), (fa2, listOf (List.toArray vs2) n2), (fa1, listOf (List.toArray vs1) n1), (x, rdObj dx), (dx, rdDict w.params l ((cs.length - r5.length + i : Nat) : Int) t1 t2 t3'), (l, listOf vs.toArray n)]) (e6 : (∀ j < i, codeAt cs ((cs.length - r5.length + j : Nat) : Int) = ex6.getD j 0)) (e7 : cs.length - r5.length + i ≤ cs.length) : R8I w x dx l fa1 fa2 l' D' u tu t1 t2 cs r5 vs vs1 vs2 n n1 n2 i m nw
theorem entry_spec {w : World} {mean mg mb} {b : Heap} {s : Shared} {dp un : Nat} {fr : List Env} {gd : Option (List Code)} {R : Result → Shared → Prop} {x dx l : Addr} {at_ : Nat} {t1 t2 t3 : Tok} {vs : List Value} {cs : List Int} {n : Nat}
    (S : Sx w mean mg mb b) (C : Ctx b s.heap [x, dx, l] fr)
    (hx : s.heap.get? x = some (rdObj dx)) (hdx : s.heap.get? dx = some (rdDict w.params l at_ t1 t2 t3)) (hl : s.heap.get? l = some (listOf vs.toArray n)) (hi : IntsAre vs cs)
    (hlen : cs.length < 1000000) (hcs : ∀ c ∈ cs, 0 ≤ c) (hat : at_ ≤ cs.length) (hroom : dp + 100 < recursionLimit) (hu : un ≤ 8960)
    (ret : ∀ w0 u t ex p', entryAt cs at_ = some ((w0, u, t, ex), p') → p' ≤ cs.length → ∀ ax adx fw ft k1 k2 k3 k4 k5 t3' vw nw vt nt h' tk, Kp [dx] s.heap h' → h'.get? dx = some (rdDict w.params l ((p' : Nat) : Int) t1 t2 t3') →
      (s.heap.get? ax = none ∧ s.heap.get? adx = none ∧ s.heap.get? fw = none ∧ s.heap.get? ft = none) → h'.get? ax = some (abObj adx) → h'.get? adx = some (abDict w.params fw ft ex u k1 k2 k3 k4 k5) → h'.get? fw = some (listOf (List.toArray vw) nw) → IntsAre vw w0 → h'.get? ft = some (listOf (List.toArray vt) nt) → IntsAre vt t →
      R (.ok (.ret (.ref ax))) { s with heap := h', toks := tk })
    (exn : entryAt cs at_ = none → ∀ e h' tk, Rz b fr e s.heap h' → R (.error (.ref e)) { s with heap := h', toks := tk }) :
    codeAny (model PySem.Challenge.rw_on0064_01.row.prog w) ⟨none, dp, some fr, gd, un⟩ (.call (.ref 169) ⟨[.ref x], []⟩) R s := by
  (have KX9 : Fill Mine.hd.heap_39 PySem.Challenge.rw_on0064_01 := (by k_fill; exact trivial); clear KX9)
  refine' enter (binds := [(Str.ofString "self", .ref x)]) S C.stays [x, dx, l] C.out ?ho ?hcd (by show dp < _; omega) ?hbind ?hloc ?_ ?hcell ?c2 ?c3 ?c4
  ((case ho => ((conv => lhs; whnf); (first | (conv in (occs := *) fd9 _ => all_goals whnf) | (conv in (occs := *) md9 _ _ => all_goals whnf)); (try dsimp only); exact rfl)); (case hcd => k_is); (case hbind => exact BindsTo.of_eq rfl); (case hloc => exact locs rfl); (case hcell => decide); (case c2 => exact rfl); (case c3 => exact rfl); (case c4 => exact rfl))
  intro g L h₁ S' hg hL F K1 env9 Q9 E9
  subst hg hL
  have X := S'.X
  have T := S'.T
  have N : News (hideAll s.heap [x, dx, l]) s.heap.objs.size h₁ [(x, rdObj dx), (dx, rdDict w.params l at_ t1 t2 t3), (l, listOf vs.toArray n)] :=
    news1 K1 hx mw0 (news1 K1 hdx mw1 (news1 K1 hl mw2 News.nil))
  obtain ⟨d1, d2, d3⟩ := rd_ne hx hdx hl
  have hE82 := exact82 X
  repeat' (first | (k_unfold; (try dsimp only)) | (k_end; kc_close) | (first | ((with_reducible show wpAny _ _ (exec (Stmt.For _ _ _ _ _) _) _ _ _); with_reducible (k_here; (with_unfolding_all (refine' For_mine ?_ ?k9hs; (case k9hs => intro _; rfl))))) | ((with_reducible show wpAny _ _ (call (Value.ref _) _ _) _ _ _); first | (k_here; (with_unfolding_all show wpAny _ _ (call (Value.ref 31) [Value.ref _, Value.ref _, Value.bool _]) _ _ _); (refine' abbrev_call ?k9S ?k9F ?k9N ?k9hA ?k9hroom ?_; (case k9F => k_asm); (case k9S => assumption); (case k9N => k_asm); (case k9hA => rfl); (case k9hroom => walk_at "m_rm"); k_whole); walk_at "t_abbrev_call_31") | (k_here; (with_unfolding_all show wpAny _ _ (call (Value.ref 162) [Value.ref _]) _ _ _); (refine' number_call ?k9S ?k9C ?k9F ?k9N ?k9hx ?k9hl ?k9U ?k9hi ?k9hlen ?k9hp ?k9hpl ?k9hroom ?k9hu ?k9hk ?_ ?_; (case k9C => assumption); (case k9S => assumption); (case k9F => k_asm); (case k9N => k_asm); (case k9hx => k_mem); (case k9hl => k_mem); (case k9U => k_updF); (case k9hi => assumption); (case k9hlen => assumption); (case k9hp => first | assumption | omega); (case k9hpl => first | assumption | omega); (case k9hroom => walk_at "m_rm"); (case k9hu => walk_at "m_rm"); (case k9hk => rfl)); rotate_left; refine Stop.go ?_; rotate_right; walk_at "t_number_call_162") | (k_here; (with_unfolding_all show wpAny _ _ (call (Value.ref 148) [Value.ref _]) _ _ _); (refine' text_call ?k9S ?k9C ?k9F ?k9N ?k9hx ?k9hl ?k9U ?k9hi ?k9hlen ?k9hcs ?k9hp ?k9hpl ?k9hroom ?k9hu ?k9hk ?_ ?_; (case k9C => assumption); (case k9S => assumption); (case k9F => k_asm); (case k9N => k_asm); (case k9hx => k_mem); (case k9hl => k_mem); (case k9U => k_updF); (case k9hi => assumption); (case k9hlen => assumption); (case k9hcs => assumption); (case k9hp => first | assumption | omega); (case k9hpl => first | assumption | omega); (case k9hroom => walk_at "m_rm"); (case k9hu => walk_at "m_rm"); (case k9hk => rfl)); rotate_left; refine Stop.go ?_; rotate_right; walk_at "t_text_call_148") | (k_here; (with_unfolding_all show wpAny _ _ (call (Value.ref 141) [Value.ref _, Value.int _ _]) _ _ _); (refine' take_call ?k9S ?k9C ?k9F ?k9N ?k9hx ?k9hl ?k9U ?k9hi ?k9hlen ?k9hp ?k9hpl ?k9hroom ?k9hk ?k9hc1 ?_ ?_; (case k9C => assumption); (case k9S => assumption); (case k9F => k_asm); (case k9N => k_asm); (case k9hx => k_mem); (case k9hl => k_mem); (case k9U => k_updF); (case k9hi => assumption); (case k9hlen => assumption); (case k9hp => first | assumption | omega); (case k9hpl => first | assumption | omega); (case k9hroom => walk_at "m_rm"); (case k9hk => rfl); (case k9hc1 => first | decide | assumption)); rotate_left; refine Stop.go ?_; rotate_right; walk_at "t_take_call_141") | (k_here; (with_unfolding_all show wpAny _ _ (call (Value.ref 134) [Value.ref _]) _ _ _); (refine' code_call ?k9S ?k9F ?k9N ?k9hx ?k9hdx ?k9hl ?k9hi ?k9hlen ?k9hp ?k9hA ?k9hroom ?_; (case k9F => k_asm); (case k9N => k_asm); (case k9S => assumption); (case k9hx => k_mem); (case k9hdx => k_mem); (case k9hl => k_mem); (case k9hi => assumption); (case k9hlen => assumption); (case k9hp => first | assumption | omega); (case k9hA => rfl); (case k9hroom => walk_at "m_rm"); k_whole); walk_at "t_code_call_134"))) | walk1 | (dsimp only; walk1) | (leave1; (try dsimp only)))
  · rename_i w0 r1 q1 tl1 fa1 tt1 _ _ vs1 n1 hi1 hne1 _ _ _ hc1 hlt1 _ _ _ _ _ u r3 q3 tl3 tu _ _ _ _ _ _ hc3 hlt3 _ _ _ _ _ t0 r5 q5 tl5 fa2 tt2 _ _ vs2 n2 hi2 hne2 _ _ _ _ _ _ _ _ _ h32 l' _ l1a D' _ F' N' l1b
    have e6 := entryAt_6 q1 hc1 q3 hc3 q5
    unfold entryEnd at e6
    rw [if_pos h32] at e6
    refine Stop.go (for_list (n := 6) (R8I w x dx l fa1 fa2 l' D' u tu t1 t2 cs r5 vs vs1 vs2 n n1 n2) rfl F' N' ⟨_, N'.get (.head _), rfl, _, rfl⟩ (.inr ⟨_, fun i m nw hJ => by obtain ⟨_, _, _, _, _, _, rfl, _⟩ := hJ; exact .head _⟩) ?_ ?_ ?_ rfl rfl (by passes_own) rfl)
    · exact ⟨rfl, rfl, rfl, rfl, rfl, _, rfl, by simp, by omega⟩
    · rintro I i v m₁ nw oI h tk hi' ⟨m1, m2, m3, m4, m5, t3', rfl, hj, hle⟩ hne F₁ N₁
      obtain ⟨k, kt, rfl, hk, hi6, hk1⟩ := ex6_at hi'
      replace hne := neAll_of hne
      dsimp only [NeAll] at hne
      dsimp only at F₁ N₁ ⊢
      repeat' (first | (k_unfold; (try dsimp only)) | (k_end; kc_close) | (first | ((with_reducible show wpAny _ _ (exec (Stmt.For _ _ _ _ _) _) _ _ _); with_reducible (k_here; (with_unfolding_all (refine' For_mine ?_ ?k9hs; (case k9hs => intro _; rfl))))) | ((with_reducible show wpAny _ _ (call (Value.ref _) _ _) _ _ _); first | (k_here; (with_unfolding_all show wpAny _ _ (call (Value.ref 31) [Value.ref _, Value.ref _, Value.bool _]) _ _ _); (refine' abbrev_call ?k9S ?k9F ?k9N ?k9hA ?k9hroom ?_; (case k9F => k_asm); (case k9S => assumption); (case k9N => k_asm); (case k9hA => rfl); (case k9hroom => walk_at "m_rm"); k_whole); walk_at "t_abbrev_call_31") | (k_here; (with_unfolding_all show wpAny _ _ (call (Value.ref 162) [Value.ref _]) _ _ _); (refine' number_call ?k9S ?k9C ?k9F ?k9N ?k9hx ?k9hl ?k9U ?k9hi ?k9hlen ?k9hp ?k9hpl ?k9hroom ?k9hu ?k9hk ?_ ?_; (case k9C => assumption); (case k9S => assumption); (case k9F => k_asm); (case k9N => k_asm); (case k9hx => k_mem); (case k9hl => k_mem); (case k9U => k_updF); (case k9hi => assumption); (case k9hlen => assumption); (case k9hp => first | assumption | omega); (case k9hpl => first | assumption | omega); (case k9hroom => walk_at "m_rm"); (case k9hu => walk_at "m_rm"); (case k9hk => rfl)); rotate_left; refine Stop.go ?_; rotate_right; walk_at "t_number_call_162") | (k_here; (with_unfolding_all show wpAny _ _ (call (Value.ref 148) [Value.ref _]) _ _ _); (refine' text_call ?k9S ?k9C ?k9F ?k9N ?k9hx ?k9hl ?k9U ?k9hi ?k9hlen ?k9hcs ?k9hp ?k9hpl ?k9hroom ?k9hu ?k9hk ?_ ?_; (case k9C => assumption); (case k9S => assumption); (case k9F => k_asm); (case k9N => k_asm); (case k9hx => k_mem); (case k9hl => k_mem); (case k9U => k_updF); (case k9hi => assumption); (case k9hlen => assumption); (case k9hcs => assumption); (case k9hp => first | assumption | omega); (case k9hpl => first | assumption | omega); (case k9hroom => walk_at "m_rm"); (case k9hu => walk_at "m_rm"); (case k9hk => rfl)); rotate_left; refine Stop.go ?_; rotate_right; walk_at "t_text_call_148") | (k_here; (with_unfolding_all show wpAny _ _ (call (Value.ref 141) [Value.ref _, Value.int _ _]) _ _ _); (refine' take_call ?k9S ?k9C ?k9F ?k9N ?k9hx ?k9hl ?k9U ?k9hi ?k9hlen ?k9hp ?k9hpl ?k9hroom ?k9hk ?k9hc1 ?_ ?_; (case k9C => assumption); (case k9S => assumption); (case k9F => k_asm); (case k9N => k_asm); (case k9hx => k_mem); (case k9hl => k_mem); (case k9U => k_updF); (case k9hi => assumption); (case k9hlen => assumption); (case k9hp => first | assumption | omega); (case k9hpl => first | assumption | omega); (case k9hroom => walk_at "m_rm"); (case k9hk => rfl); (case k9hc1 => first | decide | assumption)); rotate_left; refine Stop.go ?_; rotate_right; walk_at "t_take_call_141") | (k_here; (with_unfolding_all show wpAny _ _ (call (Value.ref 134) [Value.ref _]) _ _ _); (refine' code_call ?k9S ?k9F ?k9N ?k9hx ?k9hdx ?k9hl ?k9hi ?k9hlen ?k9hp ?k9hA ?k9hroom ?_; (case k9F => k_asm); (case k9N => k_asm); (case k9S => assumption); (case k9hx => k_mem); (case k9hdx => k_mem); (case k9hl => k_mem); (case k9hi => assumption); (case k9hlen => assumption); (case k9hp => first | assumption | omega); (case k9hA => rfl); (case k9hroom => walk_at "m_rm"); k_whole); walk_at "t_code_call_134"))) | walk1 | (dsimp only; walk1) | (leave1; (try dsimp only)))
      · rename (codeAt _ _ = k) => hck
        rename Fr _ _ _ _ => F2
        rename News _ _ _ _ => N2
        refine ForStep.mk F2 N2 ?_ ⟨?_, ?_, ?_, ?_, ?_, _, rfl, ?_, ?_⟩
        · exact neAll_to hne
        · exact m1
        · exact m2
        · exact m3
        · exact m4
        · exact m5
        · intro j hj'
          rcases Nat.lt_or_ge j i with q | q
          · exact hj j q
          · obtain rfl : j = i := by omega
            rw [← hk]; exact hck
        · omega
      · intro hck
        rw [exact_not hi6 (by rw [← hk]; exact hck), if_neg (by simp)] at e6
        exact exn e6
    · rintro h tk m₁ nw F₁ N₁ ⟨m1, m2, m3, m4, m5, t3', rfl, hj, hle⟩
      have hx6 := exact_of (p := cs.length - r5.length) hj
      dsimp only at F₁ N₁ ⊢
      repeat' (first | (k_unfold; (try dsimp only)) | (k_end; kc_close) | (first | ((with_reducible show wpAny _ _ (exec (Stmt.For _ _ _ _ _) _) _ _ _); with_reducible (k_here; (with_unfolding_all (refine' For_mine ?_ ?k9hs; (case k9hs => intro _; rfl))))) | ((with_reducible show wpAny _ _ (call (Value.ref _) _ _) _ _ _); first | (k_here; (with_unfolding_all show wpAny _ _ (call (Value.ref 31) [Value.ref _, Value.ref _, Value.bool _]) _ _ _); (refine' abbrev_call ?k9S ?k9F ?k9N ?k9hA ?k9hroom ?_; (case k9F => k_asm); (case k9S => assumption); (case k9N => k_asm); (case k9hA => rfl); (case k9hroom => walk_at "m_rm"); k_whole); walk_at "t_abbrev_call_31") | (k_here; (with_unfolding_all show wpAny _ _ (call (Value.ref 162) [Value.ref _]) _ _ _); (refine' number_call ?k9S ?k9C ?k9F ?k9N ?k9hx ?k9hl ?k9U ?k9hi ?k9hlen ?k9hp ?k9hpl ?k9hroom ?k9hu ?k9hk ?_ ?_; (case k9C => assumption); (case k9S => assumption); (case k9F => k_asm); (case k9N => k_asm); (case k9hx => k_mem); (case k9hl => k_mem); (case k9U => k_updF); (case k9hi => assumption); (case k9hlen => assumption); (case k9hp => first | assumption | omega); (case k9hpl => first | assumption | omega); (case k9hroom => walk_at "m_rm"); (case k9hu => walk_at "m_rm"); (case k9hk => rfl)); rotate_left; refine Stop.go ?_; rotate_right; walk_at "t_number_call_162") | (k_here; (with_unfolding_all show wpAny _ _ (call (Value.ref 148) [Value.ref _]) _ _ _); (refine' text_call ?k9S ?k9C ?k9F ?k9N ?k9hx ?k9hl ?k9U ?k9hi ?k9hlen ?k9hcs ?k9hp ?k9hpl ?k9hroom ?k9hu ?k9hk ?_ ?_; (case k9C => assumption); (case k9S => assumption); (case k9F => k_asm); (case k9N => k_asm); (case k9hx => k_mem); (case k9hl => k_mem); (case k9U => k_updF); (case k9hi => assumption); (case k9hlen => assumption); (case k9hcs => assumption); (case k9hp => first | assumption | omega); (case k9hpl => first | assumption | omega); (case k9hroom => walk_at "m_rm"); (case k9hu => walk_at "m_rm"); (case k9hk => rfl)); rotate_left; refine Stop.go ?_; rotate_right; walk_at "t_text_call_148") | (k_here; (with_unfolding_all show wpAny _ _ (call (Value.ref 141) [Value.ref _, Value.int _ _]) _ _ _); (refine' take_call ?k9S ?k9C ?k9F ?k9N ?k9hx ?k9hl ?k9U ?k9hi ?k9hlen ?k9hp ?k9hpl ?k9hroom ?k9hk ?k9hc1 ?_ ?_; (case k9C => assumption); (case k9S => assumption); (case k9F => k_asm); (case k9N => k_asm); (case k9hx => k_mem); (case k9hl => k_mem); (case k9U => k_updF); (case k9hi => assumption); (case k9hlen => assumption); (case k9hp => first | assumption | omega); (case k9hpl => first | assumption | omega); (case k9hroom => walk_at "m_rm"); (case k9hk => rfl); (case k9hc1 => first | decide | assumption)); rotate_left; refine Stop.go ?_; rotate_right; walk_at "t_take_call_141") | (k_here; (with_unfolding_all show wpAny _ _ (call (Value.ref 134) [Value.ref _]) _ _ _); (refine' code_call ?k9S ?k9F ?k9N ?k9hx ?k9hdx ?k9hl ?k9hi ?k9hlen ?k9hp ?k9hA ?k9hroom ?_; (case k9F => k_asm); (case k9N => k_asm); (case k9S => assumption); (case k9hx => k_mem); (case k9hdx => k_mem); (case k9hl => k_mem); (case k9hi => assumption); (case k9hlen => assumption); (case k9hp => first | assumption | omega); (case k9hA => rfl); (case k9hroom => walk_at "m_rm"); k_whole); walk_at "t_code_call_134"))) | walk1 | (dsimp only; walk1) | (leave1; (try dsimp only)))
      · rename (codeAt _ _ = 10) => h10
        rename Fr _ _ _ _ => F2
        rename News _ _ _ _ => N2
        rename (_ < _ ∧ _ < _ ∧ _ < _ ∧ _ < _ ∧ _ < _ ∧ _ < _ ∧ _ < _) => l1
        rename (_ < _) => l2
        have eb : (codeAt cs ((cs.length - r5.length : Nat) : Int) == 32) = true := by simpa using h32
        rw [eb] at N2
        rw [hx6, if_pos (by simpa using h10)] at e6
        refine ret _ _ _ _ _ e6 (by omega) _ _ fa1 fa2 _ _ _ _ _ _ _ _ _ _ _ _ (kp_sub (kp_of F2) (rd_kept2 hx hl N2 (by k_mem) (by k_mem))) (N2.get (by k_mem)) ⟨fresh_of N2 (.head _) (notin3 (by walk_at "m_no") (by walk_at "m_no") (by walk_at "m_no")), fresh_of N2 (.tail _ (.head _)) (notin3 (by walk_at "m_no") (by walk_at "m_no") (by walk_at "m_no")), fresh_of N2 (by k_mem : (fa1, _) ∈ _) (notin3 (by walk_at "m_no") (by walk_at "m_no") (by walk_at "m_no")), fresh_of N2 (by k_mem : (fa2, _) ∈ _) (notin3 (by walk_at "m_no") (by walk_at "m_no") (by walk_at "m_no"))⟩ (N2.get (.head _)) (N2.get (.tail _ (.head _))) (N2.get (by k_mem)) hi1 (N2.get (by k_mem)) hi2
      · intro hck
        rw [hx6, if_neg (by simpa using hck)] at e6
        exact exn e6
  · rename_i w0 r1 q1 tl1 fa1 tt1 _ _ vs1 n1 hi1 hne1 _ _ _ hc1 hlt1 _ _ _ _ _ u r3 q3 tl3 tu _ _ _ _ _ _ hc3 hlt3 _ _ _ _ _ t0 r5 q5 tl5 fa2 tt2 _ _ vs2 n2 hi2 hne2 _ _ _ _ _ _ _ _ _ h32 _ _ h10 hlt10 _ _ _ _ _ ax adx k1 k2 k3 k4 k5 _ _ l1 l2 _ _ _ _ F' N'
    have e6 := entryAt_6 q1 hc1 q3 hc3 q5
    unfold entryEnd at e6
    rw [if_neg h32, if_pos h10] at e6
    have eb : (codeAt cs ((cs.length - r5.length : Nat) : Int) == 32) = false := by simpa using h32
    rw [eb] at N'
    refine ret _ _ _ _ _ e6 (by omega) ax adx fa1 fa2 _ _ _ _ _ _ _ _ _ _ _ _ (kp_sub (kp_of F') (rd_kept2 hx hl N' (by k_mem) (by k_mem))) (N'.get (by k_mem)) ⟨fresh_of N' (.head _) (notin3 (by walk_at "m_no") (by walk_at "m_no") (by walk_at "m_no")), fresh_of N' (.tail _ (.head _)) (notin3 (by walk_at "m_no") (by walk_at "m_no") (by walk_at "m_no")), fresh_of N' (.tail _ (.tail _ (.tail _ (.head _)))) (notin3 (by walk_at "m_no") (by walk_at "m_no") (by walk_at "m_no")), fresh_of N' (.tail _ (.tail _ (.head _))) (notin3 (by walk_at "m_no") (by walk_at "m_no") (by walk_at "m_no"))⟩ (N'.get (.head _)) (N'.get (.tail _ (.head _))) (N'.get (by k_mem)) hi1 (N'.get (by k_mem)) hi2
  · intro hbad
    have e6 := entryAt_6 (cs := cs) (at_ := at_) (by assumption) (by assumption) (by assumption) (by assumption) (by assumption)
    unfold entryEnd at e6
    rw [if_neg (by assumption), if_neg hbad] at e6
    exact exn e6
  · intro hbad
    exact exn (entryAt_5 (cs := cs) (at_ := at_) (by assumption) (by assumption) (by assumption) (by assumption) hbad)
  · intro hbad
    exact exn (entryAt_4 (cs := cs) (at_ := at_) (by assumption) (by assumption) (by assumption) hbad)
  · intro hbad
    exact exn (entryAt_3 (cs := cs) (at_ := at_) (by assumption) (by assumption) hbad)
  · intro hbad
    exact exn (entryAt_2 (cs := cs) (at_ := at_) (by assumption) hbad)
  · intro hbad
    exact exn (entryAt_1 (cs := cs) (at_ := at_) hbad)
end

section
theorem ints_at {vs : List Value} {cs : List Int} {i : Nat} {v : Value} (h : IntsAre vs cs) (e : vs.toArray[i]? = some v) : ∃ t, v = .int (cs.getD i 0) t ∧ i < cs.length := by
  have e' : vs[i]? = some v := by simpa using e
  clear e
  induction h generalizing i with
  | nil => simp at e'
  | cons n t h ih =>
    cases i with
    | zero => simp at e'; exact ⟨t, by simp [← e'], by simp⟩
    | succ i =>
      obtain ⟨u, h1, h2⟩ := ih (by simpa using e')
      exact ⟨u, by simpa using h1, by simpa using h2⟩
theorem take_snoc {cs : List Int} {i : Nat} (h : i < cs.length) : cs.take (i + 1) = cs.take i ++ [cs.getD i 0] := by
  rw [List.take_add_one]; simp [List.getD, h]
theorem ints_app {vs ws : List Value} {cs ds : List Int} (h : IntsAre vs cs) (h' : IntsAre ws ds) : IntsAre (vs ++ ws) (cs ++ ds) := by
  induction h with
  | nil => exact h'
  | cons n t h ih => exact .cons n t ih

theorem StaysIn.refl (h : Heap) : h.StaysIn h := fun _ _ e => e
theorem StaysIn.trans {h h' h'' : Heap} (a : h.StaysIn h') (b : h'.StaysIn h'') : h.StaysIn h'' := fun x o e => b x o (a x o e)
theorem ints_push {vs : List Value} {cs : List Int} {c : Int} {t : Tok} (h : IntsAre vs cs) : IntsAre (vs ++ [.int c t]) (cs ++ [c]) := ksk_snoc h

section
variable {g h h' : Heap} {L : Addr} {m : Str → Option Value} {news news' led : List (Addr × Obj)} {W : List Addr}
theorem Fr.hide (F : Fr g L h m) : Fr (hideAll g W) L h m := ⟨F.ns, fun b o e => F.keep b o (of_hideAll _ e), by rw [hideAll_size]; exact F.above⟩
theorem News.hide (N : News g L h news) (F : Fr g L h m) (hl : ∀ p ∈ led, p.1 ∈ W ∧ g.get? p.1 = some p.2) : News (hideAll g W) L h (led ++ news) := by
  intro p hp
  rcases List.mem_append.mp hp with hp | hp
  · obtain ⟨a, e⟩ := hl p hp
    exact ⟨F.keep _ _ e, Nat.ne_of_lt (Nat.lt_of_lt_of_le (Heap.lt_size e) F.above), hideAll_none _ a⟩
  · refine ⟨(N p hp).1, (N p hp).2.1, ?_⟩
    cases q : (hideAll g W).get? p.1 with
    | none => rfl
    | some o => have := of_hideAll _ q; rw [(N p hp).2.2] at this; cases this
theorem Fr.unhide (F : Fr (hideAll g W) L h m) (hk : ∀ a ∈ W, ∀ o, g.get? a = some o → h.get? a = some o) : Fr g L h m :=
  ⟨F.ns, fun b o e => by
    by_cases hb : b ∈ W
    · exact hk b hb o e
    · exact F.keep b o (hideAll_get _ e hb), by have := F.above; rwa [hideAll_size] at this⟩
theorem News.unhide (N : News (hideAll g W) L h (led ++ news)) (hn : ∀ p ∈ news, g.get? p.1 = none) : News g L h news := fun p hp =>
  ⟨(N p (List.mem_append_right _ hp)).1, (N p (List.mem_append_right _ hp)).2.1, hn p hp⟩
end
theorem UpdF.upd {d : Addr} {o : Obj} {l : List (Addr × Obj)} {G : Obj → List (Addr × Obj)} (U : UpdF d o l G) (o' : Obj) : Upd d o o' l (G o') := by
  induction U with
  | head h => exact .head h
  | tail h _ ih => exact .tail h ih
section
variable {prog : Program} {w : World} {A : Around} {E : Value → Shared → Prop} {s : Shared} {g : Heap} {L D b : Addr} {m : Str → Option Value} {news : List (Addr × Obj)} {vs : List Value} {its2 : Array Value} {n n2 : Nat} {G : Obj → List (Addr × Obj)}
theorem extend_mine {Q : Value → Shared → Prop} (F : Fr g L s.heap m) (N : News g L s.heap news) (hb : (b, listOf its2 n2) ∈ news) (U : UpdF D (listOf (List.toArray vs) n) news G) (hne : its2.size ≠ 0) (hz : vs.length + its2.size ≤ 1000000)
    (h : ∀ h', Fr g L h' m → News g L h' (G (listOf (List.toArray (vs ++ its2.toList)) (n + 1))) → Q .none { s with heap := h' }) : wpAny (model prog w) A (call (.builtin "list.extend") [.ref D, .ref b]) Q E s := by
  refine kl_extend (l := vs ++ its2.toList) F N hb rfl (by simpa using hne) (UpdF.upd U _) ?_ ?_ ?_ h
  · unfold Builtin.List.listTooLong
    rw [show decide (vs.toArray.size + its2.size > sizeLine) = false from by rw [sizeLine_eq]; simp; omega, Bool.and_false]; simp
  · rw [sizeLine_eq]; simp; omega
  · rw [sizeLine_eq]; simp; omega
theorem mem_of_tail {p : Addr × Obj} {l : List (Addr × Obj)} (h : p ∈ l) : p ∈ l := h
end
theorem snocNews2 {h₀ h : Heap} {L a : Addr} {vs : List Value} {v : Value} {n : Nat} {news : List (Addr × Obj)} (N : News h₀ L h news) (hm : (a, listOf (vs.toArray.push v) n) ∈ news) : News h₀ L h ((a, listOf (List.toArray (vs ++ [v])) n) :: news) := by
  have e : vs.toArray.push v = List.toArray (vs ++ [v]) := by simp
  rw [e] at hm
  intro p hp
  rcases List.mem_cons.mp hp with rfl | hp
  · exact N _ hm
  · exact N _ hp
theorem isList_keeps {h h' : Heap} {a : Addr} {vs : Array Value} (x : h.IsList a vs) (k : ∀ b o, h.get? b = some o → h'.get? b = some o) : h'.IsList a vs :=
  let ⟨o, e, r⟩ := x; ⟨o, k _ _ e, r⟩
theorem hide_nil {h : Heap} : h.StaysIn (hideAll h []) := fun _ _ e => e
theorem isList_hide {h : Heap} {a : Addr} {vs : Array Value} {W : List Addr} (x : h.IsList a vs) (n : a ∉ W) : (hideAll h W).IsList a vs :=
  let ⟨o, e, r⟩ := x; ⟨o, hideAll_get _ e n, r⟩
noncomputable def NewInts (s : Shared) (xs : List Int) (Q : Value → Shared → Prop) : Prop :=
  ∀ D vs' n' h' tk, Kp [] s.heap h' → s.heap.get? D = none → h'.get? D = some (listOf (List.toArray vs') n') → IntsAre vs' xs → Q (.ref D) { s with heap := h', toks := tk }
theorem NewInts.of {s : Shared} {xs : List Int} {Q : Value → Shared → Prop} (k : NewInts s xs Q) {h' : Heap} {m : Str → Option Value} {news : List (Addr × Obj)} {D : Addr} {vs' : List Value} {n' tk : Nat} {W : List Addr}
    (F : Fr (hideAll s.heap W) s.heap.objs.size h' m) (kp : ∀ a ∈ W, a ∉ ([] : List Addr) → ∀ o, s.heap.get? a = some o → h'.get? a = some o) (N : News (hideAll s.heap W) s.heap.objs.size h' news) (hm : (D, listOf (List.toArray vs') n') ∈ news) (hD : D ∉ W) (hi : IntsAre vs' xs) : Q (.ref D) { s with heap := h', toks := tk } :=
  k _ _ _ _ _ (kp_sub (kp_of F) kp) (fresh_of N hm hD) (N.get hm) hi
theorem newInts_call {s : Shared} {xs : List Int} {Q : Value → Shared → Prop} {g : Heap} {L : Addr} {m : Str → Option Value} {news : List (Addr × Obj)} (F : Fr g L s.heap m) (N : News g L s.heap news)
    (k : ∀ D vs' n' h' tk, AllNe D news → Fr g L h' m → News g L h' ((D, listOf (List.toArray vs') n') :: news) → IntsAre vs' xs → vs'.length = xs.length → Q (.ref D) { s with heap := h', toks := tk }) : NewInts s xs Q := by
  intro D vs' n' h' tk K hn he hi
  refine k D vs' n' h' tk (allNe_of fun p hp q => ?_) (Fr.kp0 F K) (News.add F K (News.kp0 N K) hn he) hi hi.length
  have z := (N p hp).1
  rw [q, hn] at z; cases z
theorem allNe_lt {D : Addr} {l : List (Addr × Obj)} (h : AllNe D l) : AllNe D l := h
section
variable {prog : Program} {w : World} {A : Around} {E : Value → Shared → Prop} {s : Shared} {g : Heap} {L a b : Addr} {m : Str → Option Value} {news : List (Addr × Obj)} {vs ws : List Value} {xs ys : List Int}
theorem add_mine {Q : Value → Shared → Prop} (F : Fr g L s.heap m) (N : News g L s.heap news) (ha : s.heap.IsList a (List.toArray vs)) (hb : s.heap.IsList b (List.toArray ws)) (hi : IntsAre vs xs) (hj : IntsAre ws ys) (hz : vs.length + ws.length ≤ 1000000)
    (h : ∀ D zs h', Fr g L h' m → News g L h' ((D, listOf (List.toArray zs) 0) :: news) → (∀ p ∈ news, p.1 < D) → IntsAre zs (xs ++ ys) → zs.length = vs.length + ws.length → Q (.ref D) { s with heap := h' }) :
    wpAny (model prog w) A (binaryOp .Add (.ref a) (.ref b)) Q E s := by
  refine add_arrays (its := List.toArray vs) (its2 := List.toArray ws) F N ha hb (fun h' F' N' => ?_) (by rw [sizeLine_eq]; simp; omega)
  refine h _ (vs ++ ws) h' F' ?_ (fun p hp => Heap.lt_size (N p hp).1) (ints_app hi hj) (by simp)
  simpa using N'
theorem add_mineB {Q : Value → Shared → Prop} {p q : Nat} (F : Fr g L s.heap m) (N : News g L s.heap news) (ha : s.heap.IsList a (List.toArray vs)) (hb : s.heap.IsList b (List.toArray ws)) (hi : IntsAre vs xs) (hj : IntsAre ws ys) (h1 : vs.length ≤ p) (h2 : ws.length ≤ q) (hz : Nat.ble (p + q) 1000000 = true)
    (h : ∀ D zs h', Fr g L h' m → News g L h' ((D, listOf (List.toArray zs) 0) :: news) → (∀ p ∈ news, p.1 < D) → IntsAre zs (xs ++ ys) → zs.length ≤ p + q → Q (.ref D) { s with heap := h' }) :
    wpAny (model prog w) A (binaryOp .Add (.ref a) (.ref b)) Q E s :=
  add_mine F N ha hb hi hj (Nat.le_trans (Nat.add_le_add h1 h2) (Nat.le_of_ble_eq_true hz)) fun D zs h' F' N' l i e => h D zs h' F' N' l i (Nat.le_trans (Nat.le_of_eq e) (Nat.add_le_add h1 h2))
end
theorem notin1 {a x : Addr} (h : @Ne Nat a x) : a ∉ [x] := by simpa using h
theorem kept1 {h h' : Heap} {x : Addr} {o : Obj} (e : h.get? x = some o) (e' : h'.get? x = some o) : ∀ a ∈ [x], a ∉ ([] : List Addr) → ∀ o, h.get? a = some o → h'.get? a = some o := by
  intro a ha _ o' q
  simp at ha; subst ha
  rw [e] at q; cases q; exact e'
theorem kept2 {h h' : Heap} {x y : Addr} {o p : Obj} (e : h.get? x = some o) (e' : h'.get? x = some o) (f : h.get? y = some p) (f' : h'.get? y = some p) : ∀ a ∈ [x, y], a ∉ ([] : List Addr) → ∀ o, h.get? a = some o → h'.get? a = some o := by
  intro a ha _ o' q
  simp at ha; rcases ha with rfl | rfl
  · rw [e] at q; cases q; exact e'
  · rw [f] at q; cases q; exact f'
theorem while_rule2 {prog : Program} {w : World} {A : Around} {env : Env} {s : Shared} {Q : Flow → Shared → Prop} {E : Value → Shared → Prop} {test : Expr} {body : List Stmt} {pos : Pos} (I : Nat → Shared → Prop) (Out : Shared → Prop) (n : Nat) (h : I n s)
    (turn : ∀ n s, I n s → wpAny (model prog w) A (isTrue test env (eval test env)) (fun b s₂ => if b = true then wpAny (model prog w) A (execs body env) (WPost I n Q) E s₂ else Out s₂) E s)
    (done : ∀ s, Out s → Q .next s)
    (hE : PassesOwn (model prog w) A env E := by passes_own) :
    wpAny (model prog w) A (exec (.While test body [] pos) env) Q E s :=
  while_rule I n h (fun n s hI => wpAny_mono (turn n s hI) (fun b s₂ q => by
    cases b with
    | true => simpa using q
    | false => simpa using done s₂ (by simpa using q)) fun _ _ e => e) hE
section
variable {prog : Program} {w : World} {A : Around} {s : Shared} {g : Heap} {L : Addr} {m : Str → Option Value} {news : List (Addr × Obj)} {E : Value → Shared → Prop} {Q : Value → Shared → Prop} {e : Expr} {env : Env}
theorem join_list (P : List Value → Prop) (_F : Fr g L s.heap m) (_N : News g L s.heap news)
    (h : wpAny (model prog w) A (eval e env) (fun v s' => Stop (∃ D vs n h' tk, v = .ref D ∧ s' = { s with heap := h', toks := tk } ∧ AllNe D news ∧ Fr g L h' m ∧ News g L h' ((D, listOf (List.toArray vs) n) :: news) ∧ P vs)) E s)
    (k : ∀ D vs n h' tk, AllNe D news → Fr g L h' m → News g L h' ((D, listOf (List.toArray vs) n) :: news) → P vs → Q (.ref D) { s with heap := h', toks := tk }) : wpAny (model prog w) A (eval e env) Q E s :=
  wpAny_mono h (fun v s' q => by obtain ⟨D, vs, n, h', tk, rfl, rfl, a, b, c, d⟩ := q; exact k D vs n h' tk a b c d) fun _ _ e => e
theorem join_int (P : Int → Prop) (_F : Fr g L s.heap m) (_N : News g L s.heap news)
    (h : wpAny (model prog w) A (eval e env) (fun v s' => Stop (∃ x t h' tk, v = .int x t ∧ s' = { s with heap := h', toks := tk } ∧ Fr g L h' m ∧ News g L h' news ∧ P x)) E s)
    (k : ∀ x t h' tk, Fr g L h' m → News g L h' news → P x → Q (.int x t) { s with heap := h', toks := tk }) : wpAny (model prog w) A (eval e env) Q E s :=
  wpAny_mono h (fun v s' q => by obtain ⟨x, t, h', tk, rfl, rfl, b, c, d⟩ := q; exact k x t h' tk b c d) fun _ _ e => e
end
end

local macro_rules | `(tactic| walk_at "m_bd") => `(tactic| first | (with_reducible assumption) | exact Nat.le_refl 0 | exact Nat.le_refl 1 | exact Nat.le_refl 2 | exact Nat.le_refl 3 | exact Nat.le_refl 6)
section
open LCg in
noncomputable def Src (prog : Program) (w : World) (A : Around) (h₀ : Heap) (L : Addr) (xv : Value) (s₁ : Shared) (n : Nat) (P : Nat → Value → Prop) (S : List (Addr × Obj) → Prop) : Prop :=
  ∀ (Q : Value → Shared → Prop) (E : Value → Shared → Prop), (∀ fp St o, Walks prog w A s₁.heap.objs.size fp [s₁.heap.objs.size] n P St → (∀ i h, St i h → ∃ o, h.get? s₁.heap.objs.size = some o) →
    (∀ i h h' o nw, St i h → h.get? s₁.heap.objs.size = some o → h'.get? s₁.heap.objs.size = some o → (∀ b o, h₀.get? b = some o → h'.get? b = some o) → News h₀ L h' nw → S nw → St i h') →
    St 0 (s₁.heap.push o) → (∀ b ∈ fp, b < (s₁.heap.push o).objs.size) → (s₁.heap.push o).get? s₁.heap.objs.size = some o → Q (.ref s₁.heap.objs.size) { s₁ with heap := s₁.heap.push o }) → wpAny (model prog w) A (pyIter xv) Q E s₁

section
open LCg
variable {prog : Program} {w : World} {A : Around} {E : Value → Shared → Prop} {s s₁ : Shared} {h₀ : Heap} {L : Addr} {m : Str → Option Value} {env : Env} {news : List (Addr × Obj)}
theorem src_list {ax : Addr} {its : Array Value} (hh : A.handled = none) (hl : s₁.heap.IsList ax its) : Src prog w A h₀ L (.ref ax) s₁ its.size (fun i v => its[i]? = some v) (SrcAt h₀ ax its) := by
  intro Q E h
  have hlt : ax < s₁.heap.objs.size := by obtain ⟨_, e, _⟩ := hl; exact Heap.lt_size e
  refine wpAny_pyIter_list hl (h _ _ _ (Walks.list hh s₁.heap.objs.size ax (Nat.ne_of_lt hlt) its) (fun i h st => by obtain ⟨o, e, _⟩ := st.1; exact ⟨o, e⟩) list_st ⟨⟨_, Heap.get?_push_size _ rfl, rfl, rfl⟩, hl.push _⟩ (fun b hb => ?_) (Heap.get?_push_size _ rfl))
  show b < (s₁.heap.push _).objs.size
  rw [Heap.size_push]
  rcases List.mem_cons.mp hb with rfl | hb
  · exact Nat.lt_succ_self _
  · rw [List.mem_singleton.mp hb]; exact Nat.lt_succ_of_lt hlt
theorem src_range {r : Addr} {a b : Int} {t u v : Tok} {n : Nat} (hh : A.handled = none) (hr : IsRange s₁.heap r a b 1 t u v) (hsm : Builtin.Range.small a b 1 = true) (hn : Builtin.Range.rangeSize a b 1 = ((n : Nat) : Int)) :
    Src prog w A h₀ L (.ref r) s₁ n (fun i v => ∃ t, v = .int (a + (i : Int)) t) (fun _ => True) := by
  intro Q E h
  refine wpAny_pyIter_range hr hsm (h [s₁.heap.objs.size] _ _ (range_walks hh a n) (fun i h st => ⟨_, st⟩) range_st (by show IsRangeIter _ _ _ _ _; rw [hn]; simpa using Heap.get?_push_size _ rfl) (fun b hb => ?_) (Heap.get?_push_size _ rfl))
  rw [List.mem_singleton.mp hb]
  show s₁.heap.objs.size < (s₁.heap.push _).objs.size
  rw [Heap.size_push]; exact Nat.lt_succ_self _
theorem src_str {x : Str} {t : Tok} (hh : A.handled = none) : Src prog w A h₀ L (.str x t) s₁ x.cps.size (SignAt x) (fun _ => True) := by
  intro Q E h
  have sz : ∀ o : Obj, ∀ b ∈ [s₁.heap.objs.size], b < (s₁.heap.push o).objs.size := fun o b hb => by
    rw [List.mem_singleton.mp hb]
    show s₁.heap.objs.size < (s₁.heap.push _).objs.size
    rw [Heap.size_push]; exact Nat.lt_succ_self _
  cases ha : x.cps.all (· < 128)
  · refine wpAny_pyIter_wide ha (h _ _ _ (Walks.strWide hh _ x t) (fun i h st => by obtain ⟨o, e, _⟩ := st; exact ⟨o, e⟩) (fun i h h' o nw st e e' _ _ _ => ?_) ⟨_, Heap.get?_push_size _ rfl, rfl, rfl⟩ (sz _) (Heap.get?_push_size _ rfl))
    obtain ⟨o', q, r⟩ := st; rw [e] at q; cases q; exact ⟨o, e', r⟩
  · refine wpAny_pyIter_ascii ha (h _ _ _ (Walks.strAscii hh _ x t) (fun i h st => by obtain ⟨o, e, _⟩ := st; exact ⟨o, e⟩) (fun i h h' o nw st e e' _ _ _ => ?_) ⟨_, Heap.get?_push_size _ rfl, rfl, rfl⟩ (sz _) (Heap.get?_push_size _ rfl))
    obtain ⟨o', q, r⟩ := st; rw [e] at q; cases q; exact ⟨o, e', r⟩
theorem src_dict {K : Type} [DecidableEq K] {knd : PySem.KeyKind prog w K} {d : Addr} {oD : Obj} {kvs : List (K × Value)} (hh : A.handled = none) (hd : oD.IsDictOf knd kvs) (lo : (d == sysModules) = false) (ho : s₁.heap.get? d = some oD) :
    Src prog w A h₀ L (.ref d) s₁ kvs.length (fun i v => ∃ k x, kvs[i]? = some (k, x) ∧ knd.is k v = true) (fun nw => h₀.get? d = some oD ∨ (d, oD) ∈ nw) := by
  intro Q E h
  obtain ⟨ep, ha⟩ := KdkAt.of hd
  have hlt := Heap.lt_size ho
  refine wpAny_pyIter_dict lo (ha.dictAt ho) (h _ _ _ (Walks.dictKeys hh _ d (Nat.ne_of_lt hlt) kvs ep) (fun i h st => by obtain ⟨o, e, _⟩ := st.1; exact ⟨o, e⟩) (fun i h h' o nw st e e' k N S => ⟨?_, ?_⟩) ⟨⟨_, Heap.get?_push_size _ rfl, rfl, rfl⟩, ha.dictAt (Heap.get?_push_of_some _ ho)⟩ (fun b hb => ?_) (Heap.get?_push_size _ rfl))
  · obtain ⟨o', q, r⟩ := st.1; rw [e] at q; cases q; exact ⟨o, e', r⟩
  · rcases S with S | S
    · exact ha.dictAt (k _ _ S)
    · exact ha.dictAt (N.get S)
  · show b < (s₁.heap.push _).objs.size
    rw [Heap.size_push]
    rcases List.mem_cons.mp hb with rfl | hb
    · exact Nat.lt_succ_self _
    · rw [List.mem_singleton.mp hb]; exact Nat.lt_succ_of_lt hlt

inductive CEnd (h₀ : Heap) (L : Addr) (m : Str → Option Value) (s₁ : Shared) (I : Addr) (oI : Obj) (C : Addr) (oC : Obj) (D : Addr) (oD : Obj) (J : Value → List (Addr × Obj) → Prop) (y : Value) (s₂ : Shared) : Prop
  | intro (h' : Heap) (tk : Nat) (news' : List (Addr × Obj)) (e0 : s₂ = { s₁ with heap := h', toks := tk }) (e1 : Fr h₀ L h' m) (e2 : News h₀ L h' ((I, oI) :: (C, oC) :: (D, oD) :: news')) (e3 : Off3 I C D news') (e4 : J y news') : CEnd h₀ L m s₁ I oI C oC D oD J y s₂
theorem CEnd.mk {I C D : Addr} {oI oC oD : Obj} {J : Value → List (Addr × Obj) → Prop} {y : Value} {h' : Heap} {tk : Nat} {all : List (Addr × Obj)} (news' : List (Addr × Obj))
    (F : Fr h₀ L h' m) (N : News h₀ L h' all) (sub : ∀ p ∈ (I, oI) :: (C, oC) :: (D, oD) :: news', p ∈ all) (off : Off3 I C D news') (r : J y news') :
    CEnd h₀ L m s₁ I oI C oC D oD J y { s₁ with heap := h', toks := tk } := ⟨h', tk, news', rfl, F, fun p hp => N p (sub p hp), off, r⟩

theorem comp_inv {elt : Expr} {x : Str} {scope : Scope} {cl : List (Str × Addr)} {S : List (Addr × Obj) → Prop} {P : Nat → Value → Prop} {Fin : List Value → List (Addr × Obj) → Prop} (n : Nat) (J : Nat → List Value → List (Addr × Obj) → Prop)
    (hS : ∀ i ys nw, J i ys nw → S nw)
    (step : ∀ i ys news, i < n → J i ys news → ∀ v I oI C oC D m₂ h tk (E' : Value → Shared → Prop), P i v → NsObj oC m₂ → m₂ x = some v → Fr h₀ L h m → News h₀ L h ((I, oI) :: (C, oC) :: (D, lst ys) :: news) → Off3 I C D news → ((@Ne Nat I C) ∧ (@Ne Nat I D) ∧ (@Ne Nat C D)) →
      wpAny (model prog w) A (eval elt (compEnvC scope cl C env)) (CEnd h₀ L m { s with heap := h, toks := tk } I oI C oC D (lst ys) (fun y news' => J (i + 1) (ys ++ [y]) news')) E' { s with heap := h, toks := tk })
    (done : ∀ ys news, J n ys news → Fin ys news) : ∀ k i ys news, i + k = n → J i ys news → CompRest prog w A h₀ L m env elt x scope cl s S P Fin k i ys news
  | 0, i, ys, news, hi, hJ => by
    rw [Nat.add_zero] at hi; subst hi
    exact done _ _ hJ
  | k + 1, i, ys, news, hi, hJ => by
    refine CompRest.succ fun v I oI C oC D m₂ h tk E' hP hC hx F N off ne => ?_
    refine wpAny_mono (step i ys news (by omega) hJ v I oI C oC D m₂ h tk E' hP hC hx F N off ne) (fun y s₂ q => ?_) fun _ _ e => e
    obtain ⟨h', tk', news', rfl, F', N', off', r⟩ := q
    exact ⟨h', tk', news', rfl, F', N', off', hS _ _ _ r, comp_inv n J hS step done k (i + 1) _ _ (by omega) r⟩

inductive CGo (prog : Program) (w : World) (A : Around) (h₀ : Heap) (L : Addr) (m : Str → Option Value) (env : Env) (elt : Expr) (x : Str) (scope : Scope) (cl : List (Str × Addr)) (Fin : Shared → List Value → List (Addr × Obj) → Prop) (xv : Value) (s₁ : Shared) : Prop
  | intro (n : Nat) (P : Nat → Value → Prop) (S : List (Addr × Obj) → Prop) (news : List (Addr × Obj)) (e0 : Src prog w A h₀ L xv s₁ n P S) (e1 : n ≤ sizeLine) (e2 : Fr h₀ L s₁.heap m) (e3 : News h₀ L s₁.heap news) (e4 : S news) (e5 : ∀ g, CompRest prog w A h₀ L m env elt x scope cl { s₁ with heap := g } S P (Fin { s₁ with heap := g }) n 0 [] news) : CGo prog w A h₀ L m env elt x scope cl Fin xv s₁
theorem CGo.mk {elt : Expr} {x : Str} {scope : Scope} {cl : List (Str × Addr)} {Fin : Shared → List Value → List (Addr × Obj) → Prop} {xv : Value} {n : Nat} {P : Nat → Value → Prop} {S : List (Addr × Obj) → Prop} (n' : Nat)
    (J : Nat → List Value → List (Addr × Obj) → Prop) (F : Fr h₀ L s₁.heap m) (N : News h₀ L s₁.heap news) (src : Src prog w A h₀ L xv s₁ n P S) (hn : n = n') (hsz : n' ≤ 1000000) (hS : ∀ i ys nw, J i ys nw → S nw) (h0 : J 0 [] news)
    (step : ∀ i ys news, i < n' → J i ys news → ∀ v I oI C oC D m₂ h tk (E' : Value → Shared → Prop), P i v → NsObj oC m₂ → m₂ x = some v → Fr h₀ L h m → News h₀ L h ((I, oI) :: (C, oC) :: (D, lst ys) :: news) → Off3 I C D news → ((@Ne Nat I C) ∧ (@Ne Nat I D) ∧ (@Ne Nat C D)) →
      wpAny (model prog w) A (eval elt (compEnvC scope cl C env)) (CEnd h₀ L m { s₁ with heap := h, toks := tk } I oI C oC D (lst ys) (fun y news' => J (i + 1) (ys ++ [y]) news')) E' { s₁ with heap := h, toks := tk })
    (done : ∀ ys news g, J n' ys news → Fin { s₁ with heap := g } ys news) : CGo prog w A h₀ L m env elt x scope cl Fin xv s₁ := by
  subst hn
  refine ⟨n, P, S, news, src, Nat.le_trans hsz (by rw [sizeLine_eq]; omega), F, N, hS _ _ _ h0, fun g => ?_⟩
  exact comp_inv (s := { s₁ with heap := g }) n J hS step (fun ys news q => done ys news g q) n 0 [] news (Nat.zero_add _) h0

theorem comp_rule {elt iter : Expr} {x : Str} {px : Pos} {scope : Scope} {cl : List (Str × Addr)} {pos : Pos} {Q : Value → Shared → Prop} (F₀ : Fr h₀ L s.heap m)
    (hclos : closureFor scope env = pure cl) (hcell : ∀ y ∈ scope.names, y.2 ≠ .cell) (hkind : scope.kind = .function)
    (hnames : ∀ y ∈ scope.names, y.2 = .local → scope.names.lookup y.1 = some .local) (hx : scope.names.lookup x = some .local)
    (h : wpAny (model prog w) A (eval iter env) (CGo prog w A h₀ L m env elt x scope cl (fun s₂ => FinE h₀ L m s₂ Q)) E s)
    (hs : ∀ x, foldedSetIterable iter env x = pure x) :
    wpAny (model prog w) A (eval (.ListComp elt [⟨.Name x px, iter, [], 0⟩] scope pos) env) Q E s := by
  rw [eval_ListComp]
  refine wpAny_comprehension_free (use := none) rfl hs hclos hkind hnames (wpAny_mono h (fun xv s₁ h₁ => ?_) fun _ _ e => e)
  obtain ⟨n, P, S, news, hsrc, hsz, F, N, hS, R⟩ := h₁
  refine hsrc _ _ fun fp St o W hIo hSt hst hfp hI => ?_
  have up : ∀ b o', s₁.heap.get? b = some o' → (s₁.heap.push o).get? b = some o' := fun b o' e => Heap.get?_push_of_some _ e
  refine block_U W hsz hIo hSt hcell hkind hx hst hfp (F.keeps up) (N.grown up) (Nat.ne_of_lt F.ns.lt) (next_is_new F) (fun p hp => Nat.ne_of_lt (Heap.lt_size (N p hp).1)) hS (R _) ?_
  intro D C h' tk m' ys news' F' N' o1 hn hC₀ hD₀ hCL hDL hCD offC fin
  refine ⟨m', hn, fun h'' hs'' => fin D h'' tk (F'.change hs'' hCL hC₀) (fun p hp => ?_) o1⟩
  refine ⟨hs''.extBut _ _ ?_ (N' p hp).1, (N' p hp).2⟩
  rcases List.mem_cons.mp hp with rfl | hp
  · exact Ne.symm hCD
  · exact offC p hp
end

open LCg in
theorem comp_assign {prog : Program} {w : World} {A : Around} {E : Value → Shared → Prop} {s : Shared} {h₀ : Heap} {m : Str → Option Value} {env : Env} {elt iter : Expr} {x y : Str} {px py : Pos} {scope : Scope} {cl : List (Str × Addr)} {pos spos : Pos} {Q : Flow → Shared → Prop} (F₀ : Fr h₀ env.locals s.heap m)
    (hsw : swapsWith (.ListComp elt [⟨.Name x px, iter, [], 0⟩] scope pos) (some (.Name y py)) spos.line env = pure true)
    (hclos : closureFor scope env = pure cl) (hcell : ∀ z ∈ scope.names, z.2 ≠ .cell) (hkind : scope.kind = .function)
    (hnames : ∀ z ∈ scope.names, z.2 = .local → scope.names.lookup z.1 = some .local) (hx : scope.names.lookup x = some .local)
    (hy : env.kindOf y = some .local) (hp : (env.scope.kind == .class || (env.scope.kind == .module && env.locals != env.globals)) = false)
    (h : wpAny (model prog w) A (eval iter env) (CGo prog w A h₀ env.locals m env elt x scope cl (fun s₂ => FinA h₀ env.locals m s₂ y Q)) E s)
    (hs : ∀ x, foldedSetIterable iter env x = pure x) :
    wpAny (model prog w) A (exec (.Assign [.Name y py] (.ListComp elt [⟨.Name x px, iter, [], 0⟩] scope pos) spos) env) Q E s := by
  rw [exec_Assign_Name_used _ _ _ _ hsw]
  refine wpAny_bind (wpAny_standAt (wpAny_bind ?_))
  show wpAny _ A (do let _ ← comprehension (.ListComp elt [⟨.Name x px, iter, [], 0⟩] scope pos) scope env _ (newList []) false (eval iter env) (some (assign (.Name y py) env))) _ _ s
  refine wpAny_bind (wpAny_mono (wpAny_comprehension_free (use := some (assign (.Name y py) env)) (Q := fun _ s' => Q .next s') rfl hs hclos hkind hnames
    (wpAny_mono h (fun xv s₁ h₁ => ?_) fun _ _ e => e)) (fun _ s' hq => wpAny_pure (wpAny_pure hq)) fun _ _ e => e)
  obtain ⟨n, P, S, news, hsrc, hsz, F, N, hS, R⟩ := h₁
  refine hsrc _ _ fun fp St o W hIo hSt hst hfp hI => ?_
  have up : ∀ b o', s₁.heap.get? b = some o' → (s₁.heap.push o).get? b = some o' := fun b o' e => Heap.get?_push_of_some _ e
  refine block_U W hsz hIo hSt hcell hkind hx hst hfp (F.keeps up) (N.grown up) (Nat.ne_of_lt F.ns.lt) (next_is_new F) (fun p hp => Nat.ne_of_lt (Heap.lt_size (N p hp).1)) hS (R _) ?_
  intro D C h' tk m' ys news' F' N' o1 hn hC₀ hD₀ hCL hDL hCD offC fin
  show wpAny _ A (assign (.Name y py) env (.ref D)) _ _ _
  refine wpAny_assign_Name (wpAny_storeName_local hy F'.ns (fun h₂ hn₂ hs₂ => ?_) hp)
  have hL₀ : h₀.get? env.locals = none := Heap.get?_none_of_le F'.above
  have F₂ : Fr h₀ env.locals h₂ (fun z => if z = y then some (.ref D) else m z) := ⟨hn₂, fun b o e => hs₂.extBut b o (fun q => by rw [q, hL₀] at e; cases e) (F'.keep b o e), F'.above⟩
  refine ⟨m', hn.sameBut hs₂ hCL, fun h'' hs'' => fin D h'' _ (F₂.change hs'' hCL hC₀) (fun p hp => ?_) o1⟩
  have z : h₂.get? p.1 = some p.2 := hs₂.extBut _ _ (N' p hp).2.1 (N' p hp).1
  refine ⟨hs''.extBut _ _ ?_ z, (N' p hp).2⟩
  rcases List.mem_cons.mp hp with rfl | hp
  · exact Ne.symm hCD
  · exact offC p hp
end

local macro_rules | `(tactic| walk_at "t_add_mineB") => `(tactic| (intro D' ws' h' F' N' l1 hI' hL'; (try k_lt l1); (try simp only [List.length_cons, List.length_nil] at hL'); (try k_sweep)))
section
noncomputable def textOf (c : Int) : Str := Str.ofString (toString c)
noncomputable def keyF (cs : List Int) : Str := Txt.join (Str.ofString ",") (cs.map textOf)
theorem textOf_len {c : Int} (h0 : 0 ≤ c) (h1 : c < 1000000) : (textOf c).length ≤ 12 := by
  unfold textOf
  rw [PySem.ofString_length]
  have := PySem.int_text_length_le10 (a := c) (k := 6) (by omega) (by omega)
  omega
theorem strs_snoc {vs : List Value} {ys : List Str} {x : Str} {t : Tok} (h : StrsAre vs ys) : StrsAre (vs ++ [.str x t]) (ys ++ [x]) := by
  induction h with
  | nil => exact .cons _ _ .nil
  | cons y u _ ih => exact .cons _ _ ih
theorem sum_le {α : Type} (f : α → Nat) (k : Nat) : ∀ l : List α, (∀ a ∈ l, f a ≤ k) → (l.map f).sum ≤ k * l.length
  | [], _ => by simp
  | a :: l, h => by
    have h1 := h a (.head _)
    have h2 := sum_le f k l fun b hb => h b (.tail _ hb)
    simp only [List.map_cons, List.sum_cons, List.length_cons, Nat.mul_add, Nat.mul_one]; omega
theorem log2_small {a : Int} (h0 : 0 ≤ a) (h1 : a < 1000000) : a.natAbs.log2 < 1920 := by
  by_cases h : a.natAbs = 0
  · rw [h]; decide
  · refine (Nat.log2_lt h).mpr (Nat.lt_of_lt_of_le (m := 2 ^ 20) (by omega) (Nat.pow_le_pow_right (by omega) (by omega)))
theorem getD_mem {cs : List Int} {i : Nat} (h : i < cs.length) : cs.getD i 0 ∈ cs := by
  simp [List.getD, h]
theorem key_spec {w : World} {mean mg mb} {b : Heap} {s : Shared} {dp un : Nat} {fr : Option (List Env)} {gd : Option (List Code)} {R : Result → Shared → Prop} {l : Addr} {vs : List Value} {cs : List Int}
    (S : Sx w mean mg mb b) (hb : b.StaysIn s.heap)
    (hl : s.heap.IsList l vs.toArray) (hi : IntsAre vs cs) (hlen : cs.length < 10000) (h0 : ∀ c ∈ cs, 0 ≤ c ∧ c < 1000000) (hroom : dp + 10 < recursionLimit)
    (ret : ∀ t h' tk, Kp [] s.heap h' → R (.ok (.ret (.str (keyF cs) t))) { s with heap := h', toks := tk }) :
    codeAny (model PySem.Challenge.rw_on0064_01.row.prog w) ⟨none, dp, fr, gd, un⟩ (.call (.ref 61) ⟨[.ref l], []⟩) R s := by
  (have KX9 : Fill Mine.hd.heap_39 PySem.Challenge.rw_on0064_01 := (by k_fill; exact trivial); clear KX9)
  refine' enter (binds := [(Str.ofString "codes", .ref l)]) S hb [] (by simp) ?ho ?hcd (by show dp < _; omega) ?hbind ?hloc ?_ ?hcell ?c2 ?c3 ?c4
  ((case ho => ((conv => lhs; whnf); (first | (conv in (occs := *) fd9 _ => all_goals whnf) | (conv in (occs := *) md9 _ _ => all_goals whnf)); (try dsimp only); exact rfl)); (case hcd => k_is); (case hbind => exact BindsTo.of_eq rfl); (case hloc => exact locs rfl); (case hcell => decide); (case c2 => exact rfl); (case c3 => exact rfl); (case c4 => exact rfl))
  intro g L h₁ S' hg hL F K1 env9 Q9 E9
  subst hg hL
  have X := S'.X
  have T := S'.T
  have N : News (hideAll s.heap []) s.heap.objs.size h₁ [] := News.nil
  have hB : (hideAll s.heap []).IsList l vs.toArray := isList_hide hl (by simp)
  have hvl := hi.length
  repeat' (first | (k_unfold; (try dsimp only)) | (k_end; kc_close) | (first | ((with_reducible show wpAny _ _ (eval (Expr.ListComp _ _ _ _) _) _ _ _); with_reducible (with_reducible refine Stop.go ?_)) | ((with_reducible show wpAny _ _ (binaryOp _ (Value.ref _) (Value.ref _)) _ _ _); with_reducible (k_here; (with_reducible show wpAny _ _ (binaryOp _ (Value.ref _) (Value.ref _)) _ _ _); k_dflt (first | (refine' add_mineB ?k9F ?k9N ?k9a ?k9b ?k9i ?k9j ?k9y ?k9z ?k9k ?_; (case k9F => k_asm); (case k9N => k_asm); (case k9a => kmk_list); (case k9b => kmk_list); (case k9i => l_ints); (case k9j => l_ints); (case k9y => walk_at "m_bd"); (case k9z => walk_at "m_bd"); (case k9k => rfl); k_whole) | (refine' add_mine ?k9F ?k9N ?k9a ?k9b ?k9i ?k9j ?k9z ?_; (case k9F => k_asm); (case k9N => k_asm); (case k9a => kmk_list); (case k9b => kmk_list); (case k9i => l_ints); (case k9j => l_ints); (case k9z => ((try simp only [List.length_cons, List.length_nil]); omega)); k_whole)); walk_at "t_add_mineB"))) | walk1 | (dsimp only; walk1) | (leave1; (try dsimp only)))
  refine Stop.go (comp_rule (by assumption) rfl (by decide) rfl (by decide) rfl ?_ (fun _ => rfl))
  repeat' (first | (k_unfold; (try dsimp only)) | (k_end; kc_close) | (first | ((with_reducible show wpAny _ _ (eval (Expr.ListComp _ _ _ _) _) _ _ _); with_reducible (with_reducible refine Stop.go ?_)) | ((with_reducible show wpAny _ _ (binaryOp _ (Value.ref _) (Value.ref _)) _ _ _); with_reducible (k_here; (with_reducible show wpAny _ _ (binaryOp _ (Value.ref _) (Value.ref _)) _ _ _); k_dflt (first | (refine' add_mineB ?k9F ?k9N ?k9a ?k9b ?k9i ?k9j ?k9y ?k9z ?k9k ?_; (case k9F => k_asm); (case k9N => k_asm); (case k9a => kmk_list); (case k9b => kmk_list); (case k9i => l_ints); (case k9j => l_ints); (case k9y => walk_at "m_bd"); (case k9z => walk_at "m_bd"); (case k9k => rfl); k_whole) | (refine' add_mine ?k9F ?k9N ?k9a ?k9b ?k9i ?k9j ?k9z ?_; (case k9F => k_asm); (case k9N => k_asm); (case k9a => kmk_list); (case k9b => kmk_list); (case k9i => l_ints); (case k9j => l_ints); (case k9z => ((try simp only [List.length_cons, List.length_nil]); omega)); k_whole)); walk_at "t_add_mineB"))) | walk1 | (dsimp only; walk1) | (leave1; (try dsimp only)))
  rename Fr _ _ _ _ => F'
  rename News _ _ _ _ => N'
  refine CGo.mk cs.length (fun i ys nw => nw = [] ∧ StrsAre ys ((cs.take i).map textOf)) F' N' (src_list rfl (by is_list)) (by simp [hvl]) (by omega) (fun i ys nw _ => .inl (by assumption)) ⟨rfl, .nil⟩ ?_ ?_
  · rintro i ys nw hi' ⟨rfl, hy⟩ v I oI C oC D m₂ h tk E' hP hC hx F₁ N₁ off ne
    obtain ⟨t, rfl, hic⟩ := ints_at hi hP
    obtain ⟨hc0, hc1⟩ := h0 _ (getD_mem hic)
    repeat' (first | (k_unfold; (try dsimp only)) | (k_end; kc_close) | (first | ((with_reducible show wpAny _ _ (eval (Expr.ListComp _ _ _ _) _) _ _ _); with_reducible (with_reducible refine Stop.go ?_)) | ((with_reducible show wpAny _ _ (binaryOp _ (Value.ref _) (Value.ref _)) _ _ _); with_reducible (k_here; (with_reducible show wpAny _ _ (binaryOp _ (Value.ref _) (Value.ref _)) _ _ _); k_dflt (first | (refine' add_mineB ?k9F ?k9N ?k9a ?k9b ?k9i ?k9j ?k9y ?k9z ?k9k ?_; (case k9F => k_asm); (case k9N => k_asm); (case k9a => kmk_list); (case k9b => kmk_list); (case k9i => l_ints); (case k9j => l_ints); (case k9y => walk_at "m_bd"); (case k9z => walk_at "m_bd"); (case k9k => rfl); k_whole) | (refine' add_mine ?k9F ?k9N ?k9a ?k9b ?k9i ?k9j ?k9z ?_; (case k9F => k_asm); (case k9N => k_asm); (case k9a => kmk_list); (case k9b => kmk_list); (case k9i => l_ints); (case k9j => l_ints); (case k9z => ((try simp only [List.length_cons, List.length_nil]); omega)); k_whole)); walk_at "t_add_mineB"))) | walk1 | (dsimp only; walk1) | (leave1; (try dsimp only)))
    refine CEnd.mk [] F₁ N₁ (fun p hp => hp) trivial ⟨rfl, ?_⟩
    rw [take_snoc hic, List.map_append]
    exact strs_snoc hy
  · rintro ys nw gg ⟨rfl, hy⟩ D h tk F₁ N₁ off
    rw [List.take_length] at hy
    repeat' (first | (k_unfold; (try dsimp only)) | (k_end; kc_close) | (first | ((with_reducible show wpAny _ _ (eval (Expr.ListComp _ _ _ _) _) _ _ _); with_reducible (with_reducible refine Stop.go ?_)) | ((with_reducible show wpAny _ _ (binaryOp _ (Value.ref _) (Value.ref _)) _ _ _); with_reducible (k_here; (with_reducible show wpAny _ _ (binaryOp _ (Value.ref _) (Value.ref _)) _ _ _); k_dflt (first | (refine' add_mineB ?k9F ?k9N ?k9a ?k9b ?k9i ?k9j ?k9y ?k9z ?k9k ?_; (case k9F => k_asm); (case k9N => k_asm); (case k9a => kmk_list); (case k9b => kmk_list); (case k9i => l_ints); (case k9j => l_ints); (case k9y => walk_at "m_bd"); (case k9z => walk_at "m_bd"); (case k9k => rfl); k_whole) | (refine' add_mine ?k9F ?k9N ?k9a ?k9b ?k9i ?k9j ?k9z ?_; (case k9F => k_asm); (case k9N => k_asm); (case k9a => kmk_list); (case k9b => kmk_list); (case k9i => l_ints); (case k9j => l_ints); (case k9z => ((try simp only [List.length_cons, List.length_nil]); omega)); k_whole)); walk_at "t_add_mineB"))) | walk1 | (dsimp only; walk1) | (leave1; (try dsimp only)))
    refine join_listW (N₁.isList (.head _)) (by simpa using hy) (by decide) ?_ fun t' k => ?_
    · have := sum_le (fun c => (textOf c).length) 12 cs fun c hc => textOf_len (h0 c hc).1 (h0 c hc).2
      simp only [List.map_map, List.length_map]
      simp only [Function.comp_def]
      omega
    repeat' (first | (k_unfold; (try dsimp only)) | (k_end; kc_close) | (first | ((with_reducible show wpAny _ _ (eval (Expr.ListComp _ _ _ _) _) _ _ _); with_reducible (with_reducible refine Stop.go ?_)) | ((with_reducible show wpAny _ _ (binaryOp _ (Value.ref _) (Value.ref _)) _ _ _); with_reducible (k_here; (with_reducible show wpAny _ _ (binaryOp _ (Value.ref _) (Value.ref _)) _ _ _); k_dflt (first | (refine' add_mineB ?k9F ?k9N ?k9a ?k9b ?k9i ?k9j ?k9y ?k9z ?k9k ?_; (case k9F => k_asm); (case k9N => k_asm); (case k9a => kmk_list); (case k9b => kmk_list); (case k9i => l_ints); (case k9j => l_ints); (case k9y => walk_at "m_bd"); (case k9z => walk_at "m_bd"); (case k9k => rfl); k_whole) | (refine' add_mine ?k9F ?k9N ?k9a ?k9b ?k9i ?k9j ?k9z ?_; (case k9F => k_asm); (case k9N => k_asm); (case k9a => kmk_list); (case k9b => kmk_list); (case k9i => l_ints); (case k9j => l_ints); (case k9z => ((try simp only [List.length_cons, List.length_nil]); omega)); k_whole)); walk_at "t_add_mineB"))) | walk1 | (dsimp only; walk1) | (leave1; (try dsimp only)))
    exact ret _ _ _ (kp_of F₁)
section
variable {w : World} {mean : ExcName → Option Value} {mg mb : Str → Option Value} {g : Heap} {s : Shared} {A : Around} {dp un tk : Nat} {fr : Option (List Env)} {gd : Option (List Code)} {m : Str → Option Value} {L l : Addr} {vs : List Value} {cs : List Int}
  {news : List (Addr × Obj)} {E : Value → Shared → Prop} {Q : Value → Shared → Prop}
theorem key_call (S : Sx w mean mg mb g) (F : Fr g L s.heap m) (N : News g L s.heap news) (hl : s.heap.IsList l vs.toArray) (hi : IntsAre vs cs) (hlen : cs.length < 10000) (h0 : ∀ c ∈ cs, 0 ≤ c ∧ c < 1000000) (hA : A = ⟨none, dp, fr, gd, un⟩) (hroom : dp + 10 < recursionLimit)
    (k : ∀ t h' tk, Fr g L h' m → News g L h' news → Q (.str (keyF cs) t) { s with heap := h', toks := tk }) :
    wpAny (model PySem.Challenge.rw_on0064_01.row.prog w) A (call (.ref 61) [.ref l]) Q E s := by
  subst hA
  exact wpAny_call (key_spec S F.keep hl hi hlen h0 hroom fun t h' tk K => k t h' tk (Fr.kp0 F K) (News.kp0 N K))
end

noncomputable def codesOf (x : Str) : List Int := x.cps.toList.map Int.ofNat
theorem codes_snoc {x : Str} {i c : Nat} (h : x.cps[i]? = some c) : (x.cps.toList.take (i + 1)).map Int.ofNat = (x.cps.toList.take i).map Int.ofNat ++ [(c : Int)] := by
  have e : x.cps.toList[i]? = some c := by simpa using h
  rw [List.take_add_one, e]; simp
theorem codes_all {x : Str} : (x.cps.toList.take x.cps.size).map Int.ofNat = codesOf x := by
  unfold codesOf
  rw [List.take_of_length_le (by simp)]
noncomputable def digF (u : Int) : List Int := codesOf (textOf u)
section
open LCg
variable {prog : Program} {w : World} {A : Around} {s₁ : Shared} {h₀ : Heap} {L : Addr} {m : Str → Option Value} {env : Env} {news : List (Addr × Obj)}
theorem CGo.ord {elt : Expr} {xn : Str} {scope : Scope} {cl : List (Str × Addr)} {Fin : Shared → List Value → List (Addr × Obj) → Prop} {x : Str} {t : Tok} (hh : A.handled = none) (F : Fr h₀ L s₁.heap m) (N : News h₀ L s₁.heap news) (hsz : x.cps.size ≤ 1000000)
    (step : ∀ i ys c u I oI C oC D m₂ h tk (E' : Value → Shared → Prop), i < x.cps.size → IntsAre ys ((x.cps.toList.take i).map Int.ofNat) → x.cps[i]? = some c → NsObj oC m₂ → m₂ xn = some (.str ⟨#[c]⟩ u) → Fr h₀ L h m → News h₀ L h ((I, oI) :: (C, oC) :: (D, lst ys) :: news) → Off3 I C D news → ((@Ne Nat I C) ∧ (@Ne Nat I D) ∧ (@Ne Nat C D)) →
      wpAny (model prog w) A (eval elt (compEnvC scope cl C env)) (CEnd h₀ L m { s₁ with heap := h, toks := tk } I oI C oC D (lst ys) (fun y news' => news' = news ∧ ∃ t, y = .int (c : Int) t)) E' { s₁ with heap := h, toks := tk })
    (done : ∀ ys g, IntsAre ys (codesOf x) → ys.length = x.cps.size → Fin { s₁ with heap := g } ys news) : CGo prog w A h₀ L m env elt xn scope cl Fin (.str x t) s₁ := by
  refine CGo.mk x.cps.size (fun i ys nw => nw = news ∧ IntsAre ys ((x.cps.toList.take i).map Int.ofNat)) F N (src_str hh) rfl hsz (fun _ _ _ _ => trivial) ⟨rfl, .nil⟩ ?_ ?_
  · rintro i ys nw hi ⟨rfl, hy⟩ v I oI C oC D m₂ h tk E' ⟨c, u, hc, rfl⟩ hC hx F₁ N₁ off ne
    refine wpAny_mono (step i ys c u I oI C oC D m₂ h tk E' hi hy hc hC hx F₁ N₁ off ne) (fun y s₂ q => ?_) fun _ _ e => e
    obtain ⟨h', tk', news', rfl, F', N', off', rfl, t, rfl⟩ := q
    refine ⟨h', tk', _, rfl, F', N', off', rfl, ?_⟩
    rw [codes_snoc hc]
    exact ints_app hy (.cons _ _ .nil)
  · rintro ys nw g ⟨rfl, hy⟩
    rw [codes_all] at hy
    refine done ys g hy ?_
    rw [hy.length]; simp [codesOf]
end
theorem textOf_size {u : Int} (h : u.natAbs.log2 < 1920) : (textOf u).cps.size ≤ 600 := by
  show (textOf u).length ≤ 600
  unfold textOf
  rw [PySem.ofString_length]
  have h1 : u.natAbs < 10 ^ 578 := by
    by_cases q : u.natAbs = 0
    · rw [q]; decide +kernel
    · exact Nat.lt_of_lt_of_le ((Nat.log2_lt q).mp h) (by decide +kernel)
  have := PySem.int_text_length_le10 (a := u) (k := 578) (by omega) h1
  omega
theorem exact_codes : codesOf (Str.ofString " exact") = [32, 101, 120, 97, 99, 116] := by decide +kernel
end

local macro_rules | `(tactic| walk_at "m_ord") => `(tactic| (
  (refine' CGo.ord rfl ?F ?N ?hsz ?step ?done);
  (case F => k_asm); (case N => k_asm);
  (case step => (
    (intro i ys c u I oI C oC D m₂ h tk E' hi hy hc hC hx F₁ N₁ off ne);
    k_steps;
    (rename Fr _ _ _ _ => F₂); (rename News _ _ _ _ => N₂);
    (exact CEnd.mk _ F₂ N₂ (fun p hp => hp) off ⟨rfl, _, rfl⟩)));
  rotate_left;
  (intro ys gg hy hyl D h tk F₁ N₁ off); (try simp only [LCg.Off1, and_true] at off)))
section
noncomputable def ltL : List Int → List Int → Bool
  | [], [] => false
  | [], _ :: _ => true
  | _ :: _, [] => false
  | x :: xs, y :: ys => if x = y then ltL xs ys else decide (x < y)
theorem ltL_nil : ∀ ms : List Int, ltL [] ms = decide (0 < ms.length)
  | [] => rfl
  | _ :: _ => by simp [ltL]
theorem ltL_nil_r : ∀ ms : List Int, ltL ms [] = false
  | [] => rfl
  | _ :: _ => rfl
theorem ints_get {vs : List Value} {ns : List Int} (h : IntsAre vs ns) {i : Nat} (hi : i < vs.length) : ∃ t, vs[i]? = some (.int (ns.getD i 0) t) ∧ i < ns.length := by
  induction h generalizing i with
  | nil => simp at hi
  | cons n t h ih =>
    cases i with
    | zero => exact ⟨t, rfl, by simp⟩
    | succ i =>
      obtain ⟨u, h1, h2⟩ := ih (i := i) (by simpa using hi)
      exact ⟨u, by simpa using h1, by simpa using h2⟩
theorem drop_cons0 {cs : List Int} {p : Nat} (h : p < cs.length) : cs.drop p = cs.getD p 0 :: cs.drop (p + 1) := by
  rw [List.drop_eq_getElem_cons h]; simp [List.getD, h]
open PySem.SeqAt in
theorem lt_loop (l b : Addr) (vs ws : List Value) (n n2 : Nat) (ns ms : List Int) (hi : IntsAre vs ns) (hj : IntsAre ws ms) (k : Nat) :
    ∀ i : Nat, vs.length - i = k → i ≤ vs.length → Meets (Builtin.«list.__eq__.loop» ⟨[.ref l, .ref b, rawInt i, rawInt 0], []⟩)
      (fun A R s => s.heap.get? l = some (listOf vs.toArray n) ∧ s.heap.get? b = some (listOf ws.toArray n2) ∧ R (.ok (.ret (.bool (ltL (ns.drop i) (ms.drop i))))) s) := by
  have hvl := hi.length
  have hwl := hj.length
  induction k with
  | zero =>
    intro i hk hle prog w A R s h
    obtain ⟨hp, g, d, tk, os⟩ := s; obtain ⟨hl, hb, h⟩ := h
    have hi1 : vs.toArray[((i : Nat) : Int).toNat]? = none := by simp; omega
    have hd : ns.drop i = [] := List.drop_eq_nil_of_le (by omega)
    rw [hd, ltL_nil, List.length_drop] at h
    unfold PySem.W.listOf at hl hb
    wp_walk using wpAny_loadPart' hl, wpAny_loadPart' hb
    rw [hi1]
    wp_walk using wpAny_loadPart' hl, wpAny_loadPart' hb
    have e : decide (0 < ms.length - i) = decide (vs.toArray.size < ws.toArray.size) := by
      simp only [List.size_toArray]; exact decide_eq_decide.mpr (by omega)
    rw [e] at h
    exact h
  | succ k ih =>
    intro i hk hle prog w A R s h
    obtain ⟨hp, g, d, tk, os⟩ := s; obtain ⟨hl, hb, h⟩ := h
    have hl0 := hl
    have hb0 := hb
    obtain ⟨t, e1, hin⟩ := ints_get hi (i := i) (by omega)
    have hi1 : vs.toArray[((i : Nat) : Int).toNat]? = some (.int (ns.getD i 0) t) := by simpa using e1
    have hc : ((i : Int) + 1) = ((i + 1 : Nat) : Int) := by push_cast; rfl
    unfold PySem.W.listOf at hl hb
    rw [drop_cons0 hin] at h
    by_cases hjw : i < ws.length
    · obtain ⟨u, e2, hjn⟩ := ints_get hj hjw
      have hi2 : ws.toArray[((i : Nat) : Int).toNat]? = some (.int (ms.getD i 0) u) := by simpa using e2
      rw [drop_cons0 hjn, ltL] at h
      wp_walk using wpAny_loadPart' hl, wpAny_loadPart' hb
      rw [hi1, hi2]
      dsimp only
      refine wpAny_bind (wpAny_eqBool_int ?_)
      by_cases hq : ns.getD i 0 = ms.getD i 0
      · rw [if_pos hq] at h
        rw [beq_iff_eq.mpr hq]
        wp_walk
        rw [hc]
        exact ⟨plainId_quiet PySem.MeetsSeq3.plain_eq_loop _, codeAny_builtin PySem.MeetsSeq3.entry_eq_loop (by
          rw [Around.under_plainId PySem.MeetsSeq3.plain_eq_loop _]
          exact ih (i + 1) (by omega) (by omega) prog w A R _ ⟨hl0, hb0, h⟩)⟩
      · rw [if_neg hq] at h
        rw [beq_eq_false_iff_ne.mpr hq]
        wp_walk using wpAny_loadPart' hl, wpAny_loadPart' hb
        rw [hi1, hi2]
        dsimp only
        refine wpAny_bind (show wpAny _ _ (compareOp .Lt _ _) _ _ _ from lt_int ?_)
        exact wpAny_pure h
    · have hi2 : ws.toArray[((i : Nat) : Int).toNat]? = none := by simp; omega
      rw [List.drop_eq_nil_of_le (show ms.length ≤ i by omega), ltL] at h
      wp_walk using wpAny_loadPart' hl, wpAny_loadPart' hb
      rw [hi1, hi2]
      wp_walk using wpAny_loadPart' hl, wpAny_loadPart' hb
      have e : false = decide (vs.toArray.size < ws.toArray.size) := by
        simp only [List.size_toArray]; exact (decide_eq_false (by omega)).symm
      rw [e] at h
      exact h

open PySem.SeqAt in
theorem list_lt (l b : Addr) (vs ws : List Value) (n n2 : Nat) (ns ms : List Int) (hi : IntsAre vs ns) (hj : IntsAre ws ms) :
    Meets (Builtin.«list.__lt__» ⟨[.ref l, .ref b], []⟩)
      (fun A R s => s.heap.get? l = some (listOf vs.toArray n) ∧ s.heap.get? b = some (listOf ws.toArray n2) ∧ R (.ok (.ret (.bool (ltL ns ms)))) s) := by
  intro prog w A R s h
  obtain ⟨hp, g, d, tk, os⟩ := s; obtain ⟨hl, hb, h⟩ := h
  have hl0 := hl
  have hb0 := hb
  unfold PySem.W.listOf at hl hb
  have f3 := AutoSeq1.sub_list_list
  wp_walk using wpAny_loadPart' hl, wpAny_loadPart' hb
  exact ⟨plainId_quiet PySem.MeetsSeq3.plain_eq_loop _, codeAny_builtin PySem.MeetsSeq3.entry_eq_loop (by
    rw [Around.under_plainId PySem.MeetsSeq3.plain_eq_loop _]
    exact lt_loop l b vs ws n n2 ns ms hi hj _ 0 rfl (Nat.zero_le _) prog w A R _ ⟨hl0, hb0, by simpa using h⟩)⟩
theorem itemsAre_of {prog : Program} {w : World} {vs : List Value} {ns : List Int} (h : IntsAre vs ns) : ItemsAre (intKind prog w) ns vs := by
  induction h with
  | nil => exact .nil
  | cons n t h ih => exact .cons (by simp [intKind, Value.isInt]) ih
open PySem.SeqAt in
theorem tuple_lt (l b : Addr) (vs ws : List Value) (n n2 : Nat) (ns ms : List Int) (hi : IntsAre vs ns) (hj : IntsAre ws ms) :
    Meets (Builtin.«tuple.__lt__» ⟨[.ref l, .ref b], []⟩)
      (fun A R s => s.heap.get? l = some { cls := .type "tuple", data := .seq vs.toArray n } ∧ s.heap.get? b = some { cls := .type "tuple", data := .seq ws.toArray n2 } ∧ R (.ok (.ret (.bool (ltL ns ms)))) s) :=
  .of_wp fun prog w A R s h => by
  obtain ⟨hp, g, d, tk, os⟩ := s; obtain ⟨hl, hb, h⟩ := h
  have f2 := AutoSeq1.sub_tuple_tuple
  have hvl := hi.length
  have hwl := hj.length
  wp_walk using wpAny_loadPart' hl, wpAny_loadPart' hb, wpAny_forIn_list _ (fun rest b s' => b.1 = none ∧ s' = ⟨hp, g, d, tk, os⟩ ∧ ∃ xs ys ks js, rest = List.zip xs ys ∧ IntsAre xs ks ∧ IntsAre ys js ∧ ltL ks js = ltL ns ms ∧ decide (xs.length < ys.length) = decide (vs.length < ws.length)) _
  case turn =>
    rintro ⟨x, y⟩ rest b s' ⟨hb, rfl, xs, ys, ks, js, hz, h1, h2, h3, h4⟩
    cases h1 with
    | nil => simp at hz
    | cons c t h1 =>
      cases h2 with
      | nil => simp at hz
      | cons c' t' h2 =>
        simp only [List.zip_cons_cons, List.cons.injEq, Prod.mk.injEq] at hz
        obtain ⟨⟨rfl, rfl⟩, rfl⟩ := hz
        dsimp only
        rw [ltL] at h3
        refine wpAny_bind (wpAny_eqBool_int ?_)
        by_cases hq : c = c'
        · rw [if_pos hq] at h3
          rw [beq_iff_eq.mpr hq]
          simp only [Bool.not_true, Bool.false_eq_true, if_false]
          exact wpAny_pure ⟨rfl, rfl, _, _, _, _, rfl, h1, h2, h3, by simpa using h4⟩
        · rw [if_neg hq] at h3
          rw [beq_eq_false_iff_ne.mpr hq]
          simp only [Bool.not_false, if_true]
          rw [← h3] at h
          refine wpAny_bind (wpAny_rule (wpAny_bind (show wpAny _ _ (compareOp .Lt _ _) _ _ _ from lt_int ?_)))
          exact wpAny_bind (wpAny_pure (wpAny_pure (wpAny_pure ⟨_, rfl, h⟩)))
  case fin =>
    rintro ⟨b1, b2⟩ s' ⟨hb, rfl, xs, ys, ks, js, hz, h1, h2, h3, h4⟩
    simp only at hb
    subst hb
    have e : ltL ns ms = decide (vs.toArray.size < ws.toArray.size) := by
      simp only [List.size_toArray]
      rw [← h4, ← h3]
      cases h1 with
      | nil => rw [ltL_nil, h2.length]; rfl
      | cons c t h1 =>
        cases h2 with
        | nil => rw [ltL_nil_r]; rfl
        | cons c' t' h2 => simp at hz
    rw [e] at h
    exact wpAny_pure ⟨_, rfl, h⟩
  case h =>
    exact ⟨rfl, rfl, vs, ws, ns, ms, by simp, hi, hj, rfl, rfl⟩
section
variable {prog : Program} {w : World} {A : Around} {E : Value → Shared → Prop} {s : Shared}
theorem keyLt_lists {l b : Addr} {vs ws : List Value} {n n2 : Nat} {ns ms : List Int} {Q : Bool → Shared → Prop} (hu : A.units < cLine) (hl : s.heap.get? l = some (listOf vs.toArray n)) (hb : s.heap.get? b = some (listOf ws.toArray n2)) (hi : IntsAre vs ns) (hj : IntsAre ws ms)
    (h : Q (ltL ns ms) s) : wpAny (model prog w) A (keyLt' oneType' (.ref l) (.ref b)) Q E s := by
  rw [keyLt'_oneType, oneLt'_eq]
  simp only [if_true]
  refine wpAny_bind (wpAny_cRoomFor_or (.inr hu) ?_)
  have hT : s.TypeIs (.ref l) "list" := ⟨_, hl, rfl⟩
  refine wpAny_bind (wpAny_callSpecialIfBound?_slot (hT) (PySem.F.slot_list_lt) (call_meets PySem.F.slot_list_lt hT PySem.F.entry_list_lt (PySem.F.args_list_lt_2 _ _) (list_lt l b vs ws n n2 ns ms hi hj) ⟨hl, hb, ?_⟩))
  exact wpAny_truthy_bool h
theorem richLt_tuples {l b : Addr} {vs ws : List Value} {n n2 : Nat} {ns ms : List Int} {Q : Value → Shared → Prop} (hu : A.units < cLine) (hl : s.heap.get? l = some { cls := .type "tuple", data := .seq vs.toArray n }) (hb : s.heap.get? b = some { cls := .type "tuple", data := .seq ws.toArray n2 }) (hi : IntsAre vs ns) (hj : IntsAre ws ms)
    (h : Q (.bool (ltL ns ms)) s) : wpAny (model prog w) A (richCompare .Lt (.ref l) (.ref b)) Q E s := by
  have hT : s.TypeIs (.ref l) "tuple" := ⟨_, hl, rfl⟩
  have hT' : s.TypeIs (.ref b) "tuple" := ⟨_, hb, rfl⟩
  exact wpAny_richCompare_same_room (op := .Lt) hT hT' PySem.F.slot_tuple_lt (call_meets PySem.F.slot_tuple_lt hT PySem.F.entry_tuple_lt (PySem.F.args_tuple_lt_2 _ _) (tuple_lt l b vs ws n n2 ns ms hi hj) ⟨hl, hb, (fun e => nomatch e), h⟩) hu
end
end

section
noncomputable def runT {α : Type} (lt : Nat → Nat → Bool) : KasT α → α
  | .ret a => a
  | .ask i j k => runT lt (k (lt i j))
noncomputable def InT {α : Type} (n : Nat) (P : α → Prop) : KasT α → Prop
  | .ret a => P a
  | .ask i j k => i < n ∧ j < n ∧ ∀ b, InT n P (k b)
theorem InT.bind {α β : Type} {n : Nat} {P : α → Prop} {P' : β → Prop} {f : α → KasT β} : ∀ t : KasT α, InT n P t → (∀ a, P a → InT n P' (f a)) → InT n P' (t.bind f)
  | .ret a, h, hf => hf a h
  | .ask _ _ k, ⟨h1, h2, h3⟩, hf => ⟨h1, h2, fun b => InT.bind (k b) (h3 b) hf⟩
theorem InT.mono {α : Type} {n : Nat} {P P' : α → Prop} (hp : ∀ a, P a → P' a) : ∀ t : KasT α, InT n P t → InT n P' t
  | .ret a, h => hp a h
  | .ask _ _ k, ⟨h1, h2, h3⟩ => ⟨h1, h2, fun b => InT.mono hp (k b) (h3 b)⟩
theorem InT.run {α : Type} {n : Nat} {P : α → Prop} {lt : Nat → Nat → Bool} : ∀ t : KasT α, InT n P t → P (runT lt t)
  | .ret _, h => h
  | .ask i j k, ⟨_, _, h3⟩ => InT.run (k (lt i j)) (h3 _)
theorem run_kas {α : Type} {cmp : Nat → Nat → (Bool → Shared → Prop) → Shared → Prop} {lt : Nat → Nat → Bool} {n : Nat} {P : α → Prop} {s : Shared}
    (hc : ∀ i j (C : Bool → Shared → Prop), i < n → j < n → C (lt i j) s → cmp i j C s) {Q : α → Shared → Prop} : ∀ t : KasT α, InT n P t → Q (runT lt t) s → t.kasWp cmp Q s
  | .ret _, _, h => h
  | .ask i j k, ⟨h1, h2, h3⟩, h => hc i j _ h1 h2 (run_kas hc (k (lt i j)) (h3 _) h)

noncomputable def Lt' (p : Array Nat) (n : Nat) : Prop := (∀ x ∈ p.toList, x < n) ∧ p.size = n
theorem Lt'.getD {p : Array Nat} {n i : Nat} (h : Lt' p n) (h0 : 0 < n) : p.getD i 0 < n := by
  by_cases hi : i < p.size
  · rw [show p.getD i 0 = p[i] from by simp [Array.getD, hi]]
    exact h.1 _ (by simp)
  · rw [show p.getD i 0 = 0 from by simp [Array.getD, hi]]; exact h0
theorem Lt'.perm {p q : Array Nat} {n : Nat} (h : Lt' p n) (hp : q.Perm p) : Lt' q n := ⟨fun x hx => h.1 x ((Array.perm_iff_toList_perm.mp hp).mem_iff.mp hx), hp.size_eq.trans h.2⟩
theorem Lt'.rev {p : Array Nat} {n i j : Nat} (h : Lt' p n) : Lt' (kas_rev p i j) n := h.perm (mirror_perm _ _ _ _)
theorem Lt'.bub {p : Array Nat} {n i j : Nat} (h : Lt' p n) : Lt' (bubble p i j) n := h.perm (bubble_perm _ _ _)
section
variable {n : Nat} (h0 : 0 < n)
include h0
theorem in_asc {p : Array Nat} (h : Lt' p n) : ∀ f m : Nat, InT n (fun _ => True) (kas_asc p f m)
  | 0, _ => trivial
  | f + 1, m => by
    unfold kas_asc
    refine ⟨h.getD h0, h.getD h0, fun b => ?_⟩
    cases b
    · exact in_asc h f (m + 1)
    · exact trivial
theorem in_desc : ∀ (f : Nat) {p : Array Nat} (m q : Nat), Lt' p n → InT n (fun r : Array Nat × Nat × Nat => Lt' r.1 n) (kas_desc f p m q)
  | 0, _, _, _, h => h
  | f + 1, p, m, q, h => by
    unfold kas_desc
    refine ⟨h.getD h0, h.getD h0, fun b => ?_⟩
    cases b
    · refine ⟨h.getD h0, h.getD h0, fun d => ?_⟩
      cases d
      · exact in_desc f (m + 1) (q + 1) h
      · exact h
    · simp only [if_true]
      split
      · exact in_desc f (m + 1) 0 h.rev
      · exact in_desc f (m + 1) 0 h
theorem in_tail3 {p : Array Nat} {m r : Nat} (h : Lt' p n) : InT n (fun r : Nat × Array Nat => Lt' r.2 n) (kas_tail3 m r p) :=
  InT.bind _ (in_asc h0 h.rev _ _) fun _ _ => h.rev
theorem in_descPart {p : Array Nat} {m r : Nat} (h : Lt' p n) : InT n (fun r : Nat × Array Nat => Lt' r.2 n) (kas_descPart m r p) := by
  refine InT.bind _ (in_desc h0 _ _ _ h) fun a ha => ?_
  split
  · exact in_tail3 h0 ha.rev
  · exact in_tail3 h0 ha
theorem in_count {p : Array Nat} {r : Nat} (h : Lt' p n) : InT n (fun r : Nat × Array Nat => Lt' r.2 n) (kas_count r p) := by
  refine InT.bind _ (in_asc h0 h _ _) fun a _ => ?_
  split
  · exact h
  · split
    · refine ⟨h.getD h0, h.getD h0, fun b => ?_⟩
      cases b
      · exact in_descPart h0 h.rev
      · exact h
    · exact in_descPart h0 h
theorem in_place {p : Array Nat} {k : Nat} (h : Lt' p n) : ∀ f l r : Nat, InT n (fun _ => True) (kas_place p k f l r)
  | 0, _, _ => trivial
  | f + 1, l, r => by
    unfold kas_place
    split
    · exact trivial
    · refine ⟨h.getD h0, h.getD h0, fun b => ?_⟩
      cases b
      · exact in_place h f _ _
      · exact in_place h f _ _
theorem in_bin : ∀ (f : Nat) {p : Array Nat} (k : Nat), Lt' p n → InT n (fun p => Lt' p n) (kas_bin f p k)
  | 0, _, _, h => h
  | f + 1, p, k, h => InT.bind _ (in_place h0 h _ _ _) fun _ _ => in_bin f (k + 1) h.bub
theorem in_sort : InT n (fun p => Lt' p n) (kas_sort n) := by
  refine InT.bind _ (in_count h0 ⟨fun x hx => by simpa using hx, by simp⟩) fun a ha => ?_
  split
  · exact in_bin h0 _ _ ha
  · exact ha
end
noncomputable def order (lt : Nat → Nat → Bool) (n : Nat) : List Nat := if n < 2 then List.range n else (runT lt (kas_sort n)).toList
theorem order_lt {lt : Nat → Nat → Bool} {n : Nat} : ∀ x ∈ order lt n, x < n := by
  unfold order
  split
  · intro x hx; simpa using hx
  · exact (InT.run (kas_sort n) (in_sort (by omega))).1
theorem order_len (lt : Nat → Nat → Bool) (n : Nat) : (order lt n).length = n := by
  unfold order
  split
  · simp
  · exact (InT.run (lt := lt) (kas_sort n) (in_sort (by omega))).2
end

section
open PySem.Calls
section
variable {prog : Program} {w : World} {A : Around} {E : Value → Shared → Prop} {s : Shared} {h₀ : Heap} {L a kS : Addr} {m : Str → Option Value} {news : List (Addr × Obj)} {vs : List Value}
theorem rest_small {f : Value} {e1 : Nat} {P : PySem.Fin → Shared → Prop} (hk : s.heap.get? kS = some (seqObj "list" #[] 0)) (h2 : vs.length < 2)
    (h : KatKeys prog w A h₀ L m kS f (fun ks e s' => KatFin h₀ L m kS a ks e e1 vs (fun s4 => P (.done (.ret .none)) s4) s') vs [] 0 s) :
    wpAny (model prog w) A (ksk_rest a f false vs.toArray e1 (.ref kS)) P E s := by
  unfold ksk_rest
  refine wpAny_bind (wpAny_rule ?_)
  first
    | rw [List.forIn_toArray]
    | (rw [← Array.forIn_toList]; simp only [List.toList_toArray])
    | rw [← Array.forIn_toList]
  refine wpAny_bind (wpAny_mono (kat_fold (n := vs.length) (by omega) (fun x ks e s' C hz hx => ?_) vs [] 0 s (by simp) hk h) (fun _ s' hd => ?_) fun _ _ x => x)
  · refine wpAny_bind (wpAny_attempt (wpAny_mono hx (fun k s'' hk => ?_) fun _ _ hF => hF.elim))
    obtain ⟨news', g, F', N', U, c⟩ := hk
    obtain ⟨pre, post, e0, hg, x1, x2⟩ := U.split
    rw [e0] at N'
    have nk := N' (kS, seqObj "list" (List.toArray ks) e) (List.mem_append_right _ (.head _))
    have s1 := Heap.SameBut.update s''.heap kS (Obj.mapSeq (·.push k))
    have ea : (List.toArray ks).push k = List.toArray (ks ++ [k]) := by simp
    obtain ⟨c2, hc2⟩ : ∃ c2, (s''.heap.update kS (Obj.mapSeq (·.push k))).get? kS = some (seqObj "list" (List.toArray (ks ++ [k])) c2) := ⟨_, by rw [← ea]; exact get?_update_seq nk.1 (·.push k)⟩
    try dsimp only
    refine wpAny_bind (listUpdate_at nk.1 rfl ?_ (by rw [List.size_toArray, sizeLine_eq]; omega) (Nat.le_trans (Nat.le_of_eq (Array.size_push ..)) (by rw [List.size_toArray, sizeLine_eq]; omega)))
    exact wpAny_pure ⟨rfl, k, c2, hc2, c _ c2 (kas_fr F' s1 nk.2.1 nk.2.2) (by rw [hg]; exact news_set N' x1 x2 s1 hc2)⟩
  · obtain ⟨ks, e, hk', hl, fin⟩ := hd
    try dsimp only
    refine wpAny_bind (listItems_at hk' rfl ?_)
    unfold ksk_end
    have h2' : vs.toArray.size < 2 := by simpa using h2
    dsimp only
    simp only [Bool.false_eq_true, if_false]
    rw [if_pos h2', if_pos h2']
    refine wpAny_bind (wpAny_pure ?_)
    rw [StateT.run_pure]
    refine wpAny_bind (wpAny_pure ?_)
    dsimp only
    refine kat_tail (out := vs) ?_ (by omega) (by omega) rfl fin
    apply Array.toList_inj.mp
    show ((ks.toArray.zip vs.toArray).map (·.2)).toList = vs
    rw [Array.toList_map, ksk_zip]
    have : ∀ (x y : List Value), x.length = y.length → List.map (·.2) (x.zip y) = y := fun x y hxy => by
      rw [List.map_snd_zip]; omega
    exact this ks vs hl
theorem keyed_small {l : Addr} {f : Value} {kw : List (Str × Value)} {Q : Value → Shared → Prop} (F : Fr h₀ L s.heap m) (N : News h₀ L s.heap news) (hl : s.heap.IsList l vs.toArray) (h2 : vs.length < 2)
    (ha1 : argsOk "sorted" ⟨[.ref l], kw⟩) (ha2 : ∀ x, argsOk "list.sort" ⟨[.ref x], kw⟩) (ht : ∀ x, Builtin.«list.sort» ⟨[.ref x], kw⟩ = ksk_tree x f false)
    (h : ∀ D kS e1 h', Fr h₀ L h' m → News h₀ L h' ((kS, seqObj "list" #[] 0) :: (D, seqObj "list" #[] e1) :: news) → D < kS → (∀ q ∈ news, q.1 < D) →
      KatKeys prog w A.in1.in1 h₀ L m kS f (fun ks e s' => KatFin h₀ L m kS D ks e e1 vs (fun s4 => Q (.ref D) s4) s') vs [] 0 { s with heap := h' }) :
    wpAny (model prog w) A (call (.builtin "sorted") [.ref l] kw) Q E s := by
  refine call_function_entry_kw kind_sorted plain_sorted entry_sorted ha1 ?_
  unfold Builtin.«sorted»
  refine wpAny_bind (m := checkCount "sorted" 1 1 _) (wpAny_pure ?_)
  refine wpAny_bind (collect_list hl ?_ (by rw [sizeLine_eq]; omega))
  refine wpAny_bind (wpAny_newList ?_ (by rw [sizeLine_eq]; omega))
  generalize hH : ((s.heap.push (seqObj "list" #[] 0)).update s.heap.objs.size (Obj.mapSeq (· ++ vs.toArray))) = H
  have hsz : H.objs.size = s.heap.objs.size + 1 := by rw [← hH, Heap.size_update, size_push']
  have keep : ∀ b o, s.heap.get? b = some o → H.get? b = some o := fun b o q => by
    have hlt : b < s.heap.objs.size := Heap.lt_size q
    rw [← hH, Heap.get?_update_ne _ _ _ _ (Nat.ne_of_lt hlt), Heap.get?_push_ne _ _ _ (Nat.ne_of_lt hlt)]
    exact q
  have hD : H.objs.size = s.heap.objs.size + 1 := hsz
  have F1 : Fr h₀ L H m := F.kept keep
  have N1 : News h₀ L H news := N.grown keep
  have hLH : L < H.objs.size := F1.ns.lt
  refine wpAny_bind (wpAny_holding (wpAny_call_entry_kw slot_list_sort ⟨seqObj "list" vs.toArray 0, Heap.get?_push_size _ rfl, rfl⟩ entry_list_sort ?body (ha2 _)))
  case body =>
    rw [ht]
    have ho : (H.push (seqObj "list" vs.toArray 0)).get? H.objs.size = some (seqObj "list" vs.toArray 0) := Heap.get?_push_size _ rfl
    have F2 := F1.push (seqObj "list" vs.toArray 0)
    have N2 : News h₀ L (H.push (seqObj "list" vs.toArray 0)) news := N1.grown fun b x e => Heap.get?_push_of_some _ e
    have hD0 : h₀.get? H.objs.size = none := Heap.get?_none_of_le (Nat.le_trans F1.above (Nat.le_of_lt hLH))
    have hDL : H.objs.size ≠ L := Nat.ne_of_gt hLH
    have hna : ∀ p ∈ news, p.1 ≠ H.objs.size := fun p hp => Nat.ne_of_lt (Heap.lt_size (N1 p hp).1)
    have hpz : (H.push (seqObj "list" vs.toArray 0)).objs.size = H.objs.size + 1 := size_push' _ _
    generalize H.push (seqObj "list" vs.toArray 0) = G at ho F2 N2 hpz
    have s1 := Heap.SameBut.update G H.objs.size (Obj.mapSeq fun _ => (#[] : Array Value))
    obtain ⟨e1, ho1⟩ : ∃ e1, (G.update H.objs.size (Obj.mapSeq fun _ => (#[] : Array Value))).get? H.objs.size = some (seqObj "list" #[] e1) := ⟨_, get?_update_seq ho fun _ => #[]⟩
    have F3 := kas_fr F2 s1 hDL hD0
    have N3 := kas_news N2 s1 hna
    have hkS : ((G.update H.objs.size (Obj.mapSeq fun _ => (#[] : Array Value))).push (seqObj "tuple" vs.toArray 0)).objs.size = H.objs.size + 2 := by rw [size_push', Heap.size_update, hpz]
    have hLk : L < ((G.update H.objs.size (Obj.mapSeq fun _ => (#[] : Array Value))).push (seqObj "tuple" vs.toArray 0)).objs.size := (F3.push _).ns.lt
    unfold ksk_tree
    refine wpAny_bind (listItems_at (s := { s with heap := G }) ho rfl ?_)
    refine wpAny_bind (listUpdate_at (s := { s with heap := G }) ho rfl ?_ (by rw [List.size_toArray, sizeLine_eq]; omega) (Nat.zero_le _))
    refine wpAny_bind (seqEpoch_at ho1 rfl ?_)
    refine wpAny_bind (wpAny_newTuple ?_ (by show vs.length ≤ _; rw [sizeLine_eq]; omega))
    refine wpAny_bind (wpAny_newList ?_ (Nat.zero_le _))
    refine wpAny_holding ?_
    refine rest_small (s := { s with heap := ((G.update H.objs.size (Obj.mapSeq fun _ => (#[] : Array Value))).push (seqObj "tuple" vs.toArray 0)).push (seqObj "list" #[] 0) }) (kS := ((G.update H.objs.size (Obj.mapSeq fun _ => (#[] : Array Value))).push (seqObj "tuple" vs.toArray 0)).objs.size)
      (Heap.get?_push_size _ rfl) h2 (kat_keys_mono (h H.objs.size _ e1 _ ((F3.push _).push _) (fun p hp => ?_) (by rw [hkS]; exact Nat.lt_succ_of_lt (Nat.lt_succ_self _)) (fun q hq => Heap.lt_size (N1 q hq).1)) fun ks e s' _ fin => fin.mono fun s4 hq => ⟨_, rfl, wpAny_pure ⟨_, rfl, hq⟩⟩)
    rcases List.mem_cons.mp hp with rfl | hp
    · exact ⟨Heap.get?_push_size _ rfl, Nat.ne_of_gt hLk, Heap.get?_none_of_le (Nat.le_trans F.above (Nat.le_of_lt hLk))⟩
    · rcases List.mem_cons.mp hp with rfl | hp
      · exact ⟨Heap.get?_push_of_some _ (Heap.get?_push_of_some _ ho1), hDL, hD0⟩
      · exact ⟨Heap.get?_push_of_some _ (Heap.get?_push_of_some _ (N3 p hp).1), (N3 p hp).2⟩
end
end

section
open PySem.Calls
noncomputable def KeysOk (news : List (Addr × Obj)) (words : Nat → List Int) (ks : List Value) : Prop :=
  ∀ j, j < ks.length → ∃ wa vw nw, ks[j]? = some (.ref wa) ∧ (wa, listOf (List.toArray vw) nw) ∈ news ∧ IntsAre vw (words j)
theorem KeysOk.snoc {news : List (Addr × Obj)} {words : Nat → List Int} {ks : List Value} {wa : Addr} {vw : List Value} {nw : Nat} (h : KeysOk news words ks) (hm : (wa, listOf (List.toArray vw) nw) ∈ news) (hi : IntsAre vw (words ks.length)) : KeysOk news words (ks ++ [.ref wa]) := by
  intro j hj
  rw [List.length_append, List.length_singleton] at hj
  by_cases q : j < ks.length
  · obtain ⟨a, b, c, d, e⟩ := h j q
    exact ⟨a, b, c, by rw [List.getElem?_append_left q]; exact d, e⟩
  · obtain rfl : j = ks.length := by omega
    exact ⟨wa, vw, nw, by simp, hm, hi⟩
section
variable {prog : Program} {w : World} {A : Around} {E : Value → Shared → Prop} {s : Shared} {h₀ : Heap} {L kS D : Addr} {m : Str → Option Value} {news : List (Addr × Obj)} {vs : List Value} {words : Nat → List Int} {f : Value}
noncomputable def KeyCall (prog : Program) (w : World) (A : Around) (s : Shared) (h₀ : Heap) (L : Addr) (m : Str → Option Value) (news : List (Addr × Obj)) (f : Value) (vs : List Value) (words : Nat → List Int) : Prop :=
  ∀ i v h' tk news' (Q : Value → Shared → Prop), vs[i]? = some v → (∀ p ∈ news, p ∈ news') → Fr h₀ L h' m → News h₀ L h' news' →
    (∀ wa vw nw h'' tk', (wa, listOf (List.toArray vw) nw) ∈ news → IntsAre vw (words i) → Fr h₀ L h'' m → News h₀ L h'' news' → Q (.ref wa) { s with heap := h'', toks := tk' }) →
    wpAny (model prog w) A (call f [v]) Q (fun _ _ => False) { s with heap := h', toks := tk }
theorem keys_go {e1 : Nat} {Fin : List Value → Nat → Shared → Prop} (hc : KeyCall prog w A s h₀ L m news f vs words) (hDk : @Ne Nat D kS) (hnk : ∀ q ∈ news, q.1 ≠ kS)
    (fin : ∀ ks e h' tk, ks.length = vs.length → KeysOk news words ks → Fr h₀ L h' m → News h₀ L h' ((kS, seqObj "list" (List.toArray ks) e) :: (D, seqObj "list" #[] e1) :: news) → Fin ks e { s with heap := h', toks := tk }) :
    ∀ (r ks : List Value) (e : Nat) (h' : Heap) (tk : Nat), r = vs.drop ks.length → ks.length + r.length = vs.length → KeysOk news words ks → Fr h₀ L h' m → News h₀ L h' ((kS, seqObj "list" (List.toArray ks) e) :: (D, seqObj "list" #[] e1) :: news) →
      KatKeys prog w A h₀ L m kS f Fin r ks e { s with heap := h', toks := tk }
  | [], ks, e, h', tk, _, hl, hk, F, N => KatKeys.nil (fin ks e h' tk (by simpa using hl) hk F N)
  | v :: r, ks, e, h', tk, hr, hl, hk, F, N => by
    rw [List.length_cons] at hl
    have hlt : ks.length < vs.length := by omega
    rw [List.drop_eq_getElem_cons hlt] at hr
    injection hr with hv hr
    have hv' : vs[ks.length]? = some v := by rw [hv]; simp
    refine KatKeys.cons (hc ks.length v h' tk _ _ hv' (fun p hp => .tail _ (.tail _ hp)) F N fun wa vw nw h'' tk' hm hi F' N' => ?_)
    refine KatBack.intro (s := { s with heap := h'', toks := tk' }) F' N' (UpdF.head ?_) fun h3 c F3 N3 => ?_
    · intro q hq
      rcases List.mem_cons.mp hq with rfl | hq
      · exact hDk
      · exact hnk q hq
    · exact keys_go hc hDk hnk fin r (ks ++ [.ref wa]) c h3 tk' (by rw [List.length_append, List.length_singleton]; exact hr) (by rw [List.length_append, List.length_singleton]; omega) (hk.snoc hm hi) F3 N3

theorem fin_go {e e1 : Nat} {ks out : List Value} {C : Shared → Prop} {h' : Heap} {tk : Nat} (hDk : @Ne Nat D kS) (hnk : ∀ q ∈ news, q.1 ≠ kS) (hnD : ∀ q ∈ news, q.1 ≠ D) (F : Fr h₀ L h' m) (N : News h₀ L h' ((kS, seqObj "list" (List.toArray ks) e) :: (D, seqObj "list" #[] e1) :: news))
    (h : ∀ h' n', Fr h₀ L h' m → News h₀ L h' ((D, listOf (List.toArray out) n') :: news) → C { s with heap := h', toks := tk }) : KatFin h₀ L m kS D ks e e1 out C { s with heap := h', toks := tk } := by
  refine KatFin.intro (s := { s with heap := h', toks := tk }) F N (UpdF.head ?_) fun h2 c F2 N2 => ?_
  · intro q hq
    rcases List.mem_cons.mp hq with rfl | hq
    · exact hDk
    · exact hnk q hq
  · refine KasFin.intro (s := { s with heap := h2, toks := tk }) F2 N2 (UpdF.tail ?_ (UpdF.head hnD)) fun h3 c3 F3 N3 => ?_
    · exact hDk.symm
    · exact h h3 c3 F3 fun p hp => N3 p (by
        rcases List.mem_cons.mp hp with rfl | hp
        · exact .tail _ (.head _)
        · exact .tail _ (.tail _ hp))

theorem sorted_keyed {l : Addr} {kw : List (Str × Value)} {Q : Value → Shared → Prop} (F : Fr h₀ L s.heap m) (N : News h₀ L s.heap news) (hl : s.heap.IsList l vs.toArray) (h64 : vs.length < 64) (hu : A.in1.in1.units < cLine)
    (ha1 : argsOk "sorted" ⟨[.ref l], kw⟩) (ha2 : ∀ x, argsOk "list.sort" ⟨[.ref x], kw⟩) (ht : ∀ x, Builtin.«list.sort» ⟨[.ref x], kw⟩ = ksk_tree x f false)
    (hc : KeyCall prog w A.in1.in1 s h₀ L m news f vs words)
    (h : ∀ D h' tk n', Fr h₀ L h' m → News h₀ L h' ((D, listOf (List.toArray ((order (fun i j => ltL (words i) (words j)) vs.length).map fun i => vs.getD i Value.none)) n') :: news) → (∀ q ∈ news, q.1 < D) → Q (.ref D) { s with heap := h', toks := tk }) :
    wpAny (model prog w) A (call (.builtin "sorted") [.ref l] kw) Q E s := by
  by_cases h2 : vs.length < 2
  · refine keyed_small F N hl h2 ha1 ha2 ht fun D kS e1 h' F' N' l1 l2 => ?_
    refine keys_go (s := s) (D := D) (e1 := e1) hc (Nat.ne_of_lt l1) (fun q hq => Nat.ne_of_lt (Nat.lt_trans (l2 q hq) l1)) (fun ks e h'' tk hkl hk F2 N2 => ?_) vs [] 0 h' s.toks (by simp) (by simp) (fun j hj => by simp at hj) F' N'
    refine fin_go (Nat.ne_of_lt l1) (fun q hq => Nat.ne_of_lt (Nat.lt_trans (l2 q hq) l1)) (fun q hq => Nat.ne_of_lt (l2 q hq)) F2 N2 fun h3 n3 F3 N3 => ?_
    refine h D h3 tk n3 F3 ?_ l2
    have e : (order (fun i j => ltL (words i) (words j)) vs.length).map (fun i => vs.getD i Value.none) = vs := by
      unfold order
      rw [if_pos h2]
      match vs, h2 with
      | [], _ => rfl
      | [v], _ => rfl
      | _ :: _ :: _, h2 => simp only [List.length_cons] at h2; omega
    rw [e]; exact N3
  · refine kat_sortedK (b := false) F N hl (by omega) h64 ha1 ha2 ht fun D kS e1 h' F' N' l1 l2 => ?_
    refine keys_go (s := s) (D := D) (e1 := e1) hc (Nat.ne_of_lt l1) (fun q hq => Nat.ne_of_lt (Nat.lt_trans (l2 q hq) l1)) (fun ks e h'' tk hkl hk F2 N2 => ?_) vs [] 0 h' s.toks (by simp) (by simp) (fun j hj => by simp at hj) F' N'
    have get : ∀ j, j < vs.length → ∃ wa vw nw, ks.getD j Value.none = .ref wa ∧ h''.get? wa = some (listOf (List.toArray vw) nw) ∧ IntsAre vw (words j) := fun j hj => by
      obtain ⟨a, b, c, d, e, g⟩ := hk j (by omega)
      exact ⟨a, b, c, by rw [List.getD_eq_getElem?_getD, d]; rfl, N2.get (.tail _ (.tail _ e)), g⟩
    refine kas_kind (T := .type "list") (by omega) (fun v hv => ?_) (by decide) (by decide) ?_
    · obtain ⟨j, hj, rfl⟩ := List.mem_iff_getElem.mp hv
      obtain ⟨wa, vw, nw, e1, e2, e3⟩ := get j (by omega)
      rw [List.getD_eq_getElem?_getD, List.getElem?_eq_getElem hj] at e1
      simp only [Option.getD_some] at e1
      rw [e1]
      exact (Looks.ld e2).andThen .now
    · refine run_kas (n := vs.length) (lt := fun i j => ltL (words i) (words j)) (P := fun p => Lt' p vs.length) (fun i j C hi hj hC => ?_) _ (in_sort (by omega)) ?_
      · obtain ⟨wa, vw, nw, e1, e2, e3⟩ := get i hi
        obtain ⟨wb, vx, nx, g1, g2, g3⟩ := get j hj
        unfold kas_ask
        show wpAny _ _ (keyLt' _ (ks.getD i Value.none) (ks.getD j Value.none)) _ _ _
        rw [e1, g1]
        exact keyLt_lists hu e2 g2 e3 g3 hC
      · refine fin_go (Nat.ne_of_lt l1) (fun q hq => Nat.ne_of_lt (Nat.lt_trans (l2 q hq) l1)) (fun q hq => Nat.ne_of_lt (l2 q hq)) F2 N2 fun h3 n3 F3 N3 => ?_
        refine h D h3 tk n3 F3 ?_ l2
        unfold order
        rw [if_neg h2]
        exact N3

noncomputable def TupsOk (news : List (Addr × Obj)) (words : Nat → List Int) (vs : List Value) : Prop :=
  ∀ j, j < vs.length → ∃ wa vw nw, vs[j]? = some (.ref wa) ∧ (wa, ({ cls := .type "tuple", data := .seq (List.toArray vw) nw } : Obj)) ∈ news ∧ IntsAre vw (words j)
theorem lex_ints {b fin : Bool} {Q : Bool → Shared → Prop} : ∀ {vs ws : List Value} {ns ms : List Int} (i : Nat), IntsAre vs ns → IntsAre ws ms → fin = decide (vs.length < ws.length) → Q (ltL ns ms) s → KatLex prog w A b fin Q (vs.zip ws) i s
  | _, _, _, _, i, .nil, .nil, hf, h => by subst hf; exact kat_nil h
  | _, _, _, _, i, .nil, .cons _ _ _, hf, h => by subst hf; exact kat_nil (by simpa [ltL] using h)
  | _, _, _, _, i, .cons _ _ _, .nil, hf, h => by subst hf; exact kat_nil (by simpa [ltL] using h)
  | _, _, _, _, i, .cons x t hi, .cons y u hj, hf, h => by
    rw [List.zip_cons_cons]
    rw [ltL] at h
    refine kat_cons (wpAny_eqBool_int ?_)
    by_cases q : x = y
    · rw [if_pos q] at h
      rw [beq_iff_eq.mpr q]
      exact kat_yes (lex_ints (i + 1) hi hj (by simpa using hf) h)
    · rw [if_neg q] at h
      rw [beq_eq_false_iff_ne.mpr q]
      refine kat_no ?_
      cases (b && i == 0) with
      | true => exact oneLt_int h
      | false => exact kat_one _ _ (lt_int h)
theorem askLt_tuples {κ : SortKind} (hκ : κ = tuples' true ∨ κ = oneType' ∨ κ = general') {l b : Addr} {vs ws : List Value} {n n2 : Nat} {ns ms : List Int} {Q : Bool → Shared → Prop} (hu : A.units < cLine) (hl : s.heap.get? l = some { cls := .type "tuple", data := .seq vs.toArray n }) (hb : s.heap.get? b = some { cls := .type "tuple", data := .seq ws.toArray n2 }) (hi : IntsAre vs ns) (hj : IntsAre ws ms)
    (h : Q (ltL ns ms) s) : wpAny (model prog w) A (keyLt' κ (.ref l) (.ref b)) Q E s := by
  have hT : s.TypeIs (.ref l) "tuple" := ⟨_, hl, rfl⟩
  rcases hκ with rfl | rfl | rfl
  · refine kat_lt hl rfl hb rfl ?_
    exact lex_ints 0 hi hj (by simp) h
  · rw [keyLt'_oneType, oneLt'_eq]
    simp only [if_true]
    refine wpAny_bind (wpAny_cRoomFor_or (.inr hu) ?_)
    refine wpAny_bind (wpAny_callSpecialIfBound?_slot (hT) (PySem.F.slot_tuple_lt) (call_meets PySem.F.slot_tuple_lt hT PySem.F.entry_tuple_lt (PySem.F.args_tuple_lt_2 _ _) (tuple_lt l b vs ws n n2 ns ms hi hj) ⟨hl, hb, ?_⟩))
    exact wpAny_truthy_bool h
  · refine show wpAny _ _ (oneLt' false (.ref l) (.ref b)) _ _ _ from kat_one _ _ ?_
    exact richLt_tuples hu hl hb hi hj h

theorem firsts_go {Q : List (Option Value) → Shared → Prop} : ∀ (vs : List Value), (∀ v ∈ vs, ∃ wa vw nw, v = .ref wa ∧ s.heap.get? wa = some { cls := .type "tuple", data := .seq (List.toArray vw) nw } ∧ ∃ ns, IntsAre vw ns) →
    (∀ fs : List (Option Value), (∀ o ∈ fs, o = none ∨ ∃ x t, o = some (.int x t)) → fs.length = vs.length → Q fs s) → wpAny (model prog w) A (vs.mapM firstOfTuple') Q E s
  | [], _, h => by rw [List.mapM_nil]; exact wpAny_pure (h [] (by simp) rfl)
  | v :: vs, hv, h => by
    obtain ⟨wa, vw, nw, rfl, e, ns, hi⟩ := hv v (.head _)
    rw [List.mapM_cons]
    refine wpAny_bind ?_
    rw [kas_first_eq]
    refine wpAny_bind (Looks.here ((Looks.ld e).andThen .now) ?_)
    rw [if_neg (by simp)]
    refine wpAny_bind (listItems_at e rfl (wpAny_pure ?_))
    refine wpAny_bind (firsts_go vs (fun v hv' => hv v (.tail _ hv')) fun fs hf hl => wpAny_pure (h _ (fun o ho => ?_) (by simp [hl])))
    rcases List.mem_cons.mp ho with rfl | ho
    · cases hi with
      | nil => exact .inl rfl
      | cons x t _ => exact .inr ⟨x, t, rfl⟩
    · exact hf o ho
theorem kind_tuples {Q : SortKind → Shared → Prop} (h2 : 2 ≤ vs.length) (hk : ∀ v ∈ vs, ∃ wa vw nw, v = .ref wa ∧ s.heap.get? wa = some { cls := .type "tuple", data := .seq (List.toArray vw) nw } ∧ ∃ ns, IntsAre vw ns)
    (h : ∀ κ, (κ = tuples' true ∨ κ = oneType' ∨ κ = general') → Q κ s) : wpAny (model prog w) A (keyKind' vs.toArray) Q E s := by
  rw [kat_kind_eq, List.mapM_toArray, map_eq_pure_bind]
  refine wpAny_bind (wpAny_bind (firsts_go vs hk fun fs hf hl => wpAny_pure ?_))
  by_cases hall : ((List.toArray fs).all fun x => x.isSome) = true
  · rw [if_pos hall]
    refine wpAny_bind (wpAny_rule ?_)
    have hfm : (List.toArray fs).filterMap id = (fs.filterMap id).toArray := by simp
    have hmem : ∀ v ∈ fs.filterMap id, ∃ x t, v = .int x t := fun v hv => by
      obtain ⟨o, ho, e⟩ := List.mem_filterMap.mp hv
      rcases hf o ho with rfl | ⟨x, t, rfl⟩
      · cases e
      · cases e; exact ⟨x, t, rfl⟩
    have hne : 0 < (fs.filterMap id).length := by
      match fs, hl, hall with
      | [], hl, _ => simp at hl; omega
      | none :: _, _, hall => simp at hall
      | some v :: r, _, _ => simp
    rw [hfm, oneTypeOnly'_eq, List.mapM_toArray, map_eq_pure_bind]
    generalize fs.filterMap id = gs at hmem hne
    refine wpAny_bind (wpAny_bind (wpAny_bind (kas_mapM (r := .type "int") _ (fun v hv Q' hq => ?_) (wpAny_pure ?_))))
    · obtain ⟨x, t, rfl⟩ := hmem v hv
      exact wpAny_pure hq
    · obtain ⟨g, gs, rfl⟩ : ∃ g r, gs = g :: r := by
        match gs, hne with
        | g :: r, _ => exact ⟨g, r, rfl⟩
      have hall2 : ((List.map (fun _ => Value.type "int") (g :: gs)).toArray.all fun x => x == Value.type "int") = true := by
        simp
      have h0 : (List.map (fun _ => Value.type "int") (g :: gs)).toArray[0]? = some (Value.type "int") := by simp
      rw [h0]
      simp only [hall2, if_true]
      exact wpAny_pure (wpAny_pure (h _ (.inl rfl)))
  · rw [if_neg hall]
    split
    · exact wpAny_pure (h _ (.inr (.inr rfl)))
    · obtain ⟨v₁, v₂, rest, rfl⟩ : ∃ v₁ v₂ rest, vs = v₁ :: v₂ :: rest := by
        match vs, h2 with
        | [], h2 => simp at h2
        | [_], h2 => simp at h2
        | v₁ :: v₂ :: rest, _ => exact ⟨v₁, v₂, rest, rfl⟩
      rw [oneTypeOnly'_eq, List.mapM_toArray, map_eq_pure_bind]
      refine wpAny_bind (wpAny_bind (wpAny_bind (kas_mapM (r := .type "tuple") _ (fun v hv Q' hq => ?_) (wpAny_pure ?_))))
      · obtain ⟨wa, vw, nw, rfl, e, _⟩ := hk v hv
        exact Looks.here ((Looks.ld e).andThen .now) hq
      · have hall2 : ((List.map (fun _ => Value.type "tuple") (v₁ :: v₂ :: rest)).toArray.all fun x => x == Value.type "tuple") = true := by simp
        have h0 : (List.map (fun _ => Value.type "tuple") (v₁ :: v₂ :: rest)).toArray[0]? = some (Value.type "tuple") := by simp
        rw [h0]
        simp only [hall2, if_true]
        exact wpAny_pure (wpAny_pure (h _ (.inr (.inl rfl))))
theorem lsort_small {D : Addr} {n : Nat} {Q : Value → Shared → Prop} (F : Fr h₀ L s.heap m) (N : News h₀ L s.heap ((D, listOf (List.toArray vs) n) :: news)) (hnD : ∀ q ∈ news, q.1 ≠ D) (h2 : vs.length < 2)
    (h : ∀ h' tk n', Fr h₀ L h' m → News h₀ L h' ((D, listOf (List.toArray vs) n') :: news) → Q .none { s with heap := h', toks := tk }) :
    wpAny (model prog w) A (call (.builtin "list.sort") [.ref D]) Q E s := by
  have nz := N _ (.head _)
  have ho : s.heap.get? D = some (seqObj "list" vs.toArray n) := nz.1
  refine wpAny_call_entry slot_list_sort ⟨_, nz.1, rfl⟩ entry_list_sort ?_ (args_list_sort _)
  have s1 := Heap.SameBut.update s.heap D (Obj.mapSeq fun _ => (#[] : Array Value))
  obtain ⟨e1, ho1⟩ : ∃ e1, (s.heap.update D (Obj.mapSeq fun _ => (#[] : Array Value))).get? D = some (seqObj "list" #[] e1) := ⟨_, get?_update_seq ho fun _ => #[]⟩
  have N₀ : News h₀ L s.heap news := fun p hp => N p (.tail _ hp)
  have F1 := kas_fr F s1 nz.2.1 nz.2.2
  have N1 := kas_news N₀ s1 hnD
  generalize hG : s.heap.update D (Obj.mapSeq fun _ => (#[] : Array Value)) = G at ho1 F1 N1
  have F3 : Fr h₀ L ((G.push (seqObj "tuple" vs.toArray 0)).push (seqObj "list" #[] 0)) m := (F1.push _).push _
  have N3 : News h₀ L ((G.push (seqObj "tuple" vs.toArray 0)).push (seqObj "list" #[] 0)) news := N1.grown fun b x e => Heap.get?_push_of_some _ (Heap.get?_push_of_some _ e)
  have ho6 : ((G.push (seqObj "tuple" vs.toArray 0)).push (seqObj "list" #[] 0)).get? D = some (seqObj "list" #[] e1) := Heap.get?_push_of_some _ (Heap.get?_push_of_some _ ho1)
  rw [list_sort_plain]
  refine wpAny_bind (listItems_at ho rfl ?_)
  refine wpAny_bind (listUpdate_at ho rfl ?_ (by rw [List.size_toArray, sizeLine_eq]; omega) (Nat.zero_le _))
  rw [hG]
  refine wpAny_bind (seqEpoch_at ho1 rfl ?_)
  refine wpAny_bind (wpAny_newTuple ?_ (by show vs.length ≤ _; rw [sizeLine_eq]; omega))
  refine wpAny_bind (wpAny_newList ?_ (Nat.zero_le _))
  refine wpAny_holding ?_
  dsimp only
  have hn2 : vs.toArray.size < 2 := by rw [List.size_toArray]; omega
  rw [if_pos hn2, if_pos hn2]
  refine wpAny_bind (wpAny_pure ?_)
  rw [StateT.run_pure]
  refine wpAny_bind (wpAny_pure ?_)
  dsimp only
  refine wpAny_bind (seqEpoch_at ho6 rfl ?_)
  have hout : (arrOf (SortSt.mk' general' (vs.toArray.zip vs.toArray) #[] 7 none)).map (·.2) = vs.toArray := by
    apply Array.toList_inj.mp
    show ((vs.toArray.zip vs.toArray).map (·.2)).toList = vs
    rw [Array.toList_map, ksk_zip]
    show List.map (·.2) (vs.zip vs) = vs
    rw [List.map_snd_zip]; omega
  rw [hout]
  have s2 := Heap.SameBut.update ((G.push (seqObj "tuple" vs.toArray 0)).push (seqObj "list" #[] 0)) D (Obj.mapSeq fun _ => vs.toArray)
  obtain ⟨c2, hc2⟩ : ∃ c2, (((G.push (seqObj "tuple" vs.toArray 0)).push (seqObj "list" #[] 0)).update D (Obj.mapSeq fun _ => vs.toArray)).get? D = some (seqObj "list" vs.toArray c2) := ⟨_, get?_update_seq ho6 fun _ => vs.toArray⟩
  refine wpAny_bind (listUpdate_at ho6 rfl ?_ (Nat.zero_le _) (by rw [List.size_toArray, sizeLine_eq]; omega))
  simp only [bne_self_eq_false, Bool.false_eq_true, if_false]
  refine wpAny_pure ⟨_, rfl, h _ s.toks c2 (kas_fr F3 s2 nz.2.1 nz.2.2) fun p hp => ?_⟩
  rcases List.mem_cons.mp hp with rfl | hp
  · exact ⟨hc2, nz.2⟩
  · exact kas_news N3 s2 hnD p hp
theorem lsort_tuples {D : Addr} {n : Nat} {Q : Value → Shared → Prop} (F : Fr h₀ L s.heap m) (N : News h₀ L s.heap ((D, listOf (List.toArray vs) n) :: news)) (hnD : ∀ q ∈ news, q.1 ≠ D) (h64 : vs.length < 64) (hu : A.in1.units < cLine) (hk : TupsOk news words vs)
    (h : ∀ h' tk n', Fr h₀ L h' m → News h₀ L h' ((D, listOf (List.toArray ((order (fun i j => ltL (words i) (words j)) vs.length).map fun i => vs.getD i Value.none)) n') :: news) → Q .none { s with heap := h', toks := tk }) :
    wpAny (model prog w) A (call (.builtin "list.sort") [.ref D]) Q E s := by
  by_cases h2 : vs.length < 2
  · refine lsort_small F N hnD h2 fun h' tk n' F' N' => h h' tk n' F' ?_
    have e : (order (fun i j => ltL (words i) (words j)) vs.length).map (fun i => vs.getD i Value.none) = vs := by
      unfold order
      rw [if_pos h2]
      match vs, h2 with
      | [], _ => rfl
      | [v], _ => rfl
      | _ :: _ :: _, h2 => simp only [List.length_cons] at h2; omega
    rw [e]; exact N'
  · refine kat_lsort F N (UpdF.head hnD) (by simp) (by omega) h64 fun e1 h' F' N' => ?_
    (try dsimp only at F' N')
    have get : ∀ j, j < vs.length → ∃ wa vw nw, vs.getD j Value.none = .ref wa ∧ h'.get? wa = some ({ cls := .type "tuple", data := .seq (List.toArray vw) nw } : Obj) ∧ IntsAre vw (words j) := fun j hj => by
      obtain ⟨a, b, c, d, e, g⟩ := hk j hj
      exact ⟨a, b, c, by rw [List.getD_eq_getElem?_getD, d]; rfl, N'.get (.tail _ e), g⟩
    refine kind_tuples (by omega) (fun v hv => ?_) fun κ hκ => ?_
    · obtain ⟨j, hj, rfl⟩ := List.mem_iff_getElem.mp hv
      obtain ⟨wa, vw, nw, e1, e2, e3⟩ := get j hj
      rw [List.getD_eq_getElem?_getD, List.getElem?_eq_getElem hj] at e1
      simp only [Option.getD_some] at e1
      exact ⟨wa, vw, nw, e1, e2, _, e3⟩
    · refine run_kas (n := vs.length) (lt := fun i j => ltL (words i) (words j)) (P := fun p => Lt' p vs.length) (fun i j C hi hj hC => ?_) _ (in_sort (by omega)) ?_
      · obtain ⟨wa, vw, nw, e1, e2, e3⟩ := get i hi
        obtain ⟨wb, vx, nx, g1, g2, g3⟩ := get j hj
        unfold kas_ask
        show wpAny _ _ (keyLt' _ (vs.getD i Value.none) (vs.getD j Value.none)) _ _ _
        rw [e1, g1]
        exact askLt_tuples hκ hu e2 g2 e3 g3 hC
      · refine KasFin.intro (s := { s with heap := h' }) F' N' (UpdF.head hnD) fun h3 c3 F3 N3 => ?_
        refine h h3 s.toks c3 F3 ?_
        unfold order
        rw [if_neg h2]
        exact N3
end
end

section
open PySem.Calls
noncomputable def DAt (h : Heap) (d : Addr) (es : Array DictEntry) (ep : Nat) : Prop := ∃ o, h.get? d = some o ∧ o.ExactDict ∧ o.data = .dict es ep
theorem DAt.at {h h' : Heap} {d : Addr} {es : Array DictEntry} {ep : Nat} (x : DAt h d es ep) (k : ∀ o, h.get? d = some o → h'.get? d = some o) : DAt h' d es ep :=
  let ⟨o, e, r⟩ := x; ⟨o, k o e, r⟩
theorem DAt.typeIs {s : Shared} {d : Addr} {es : Array DictEntry} {ep : Nat} (x : DAt s.heap d es ep) : s.TypeIs (.ref d) "dict" := let ⟨o, e, c, _⟩ := x; ⟨o, e, c.1⟩
section
variable {prog : Program} {w : World} {A : Around} {E : Value → Shared → Prop} {s : Shared} {d it : Addr} {es : Array DictEntry} {ep i : Nat}
theorem iter_dat {Q : Value → Shared → Prop} (lo : (d == sysModules) = false) (hm : DAt s.heap d es ep)
    (hQ : Q (.ref s.heap.objs.size) { s with heap := s.heap.push { cls := .type "dict_keyiterator", data := .fields #[.ref d, .int 0 0, .int es.size 0, .int ep 0] } }) : wpAny (model prog w) A (pyIter (.ref d)) Q E s := by
  have hT := hm.typeIs
  obtain ⟨o, ho, hc, hdat⟩ := hm
  refine wpAny_pyIter_slot hT PySem.F.slot_dict_iter (wpAny_call_entry PySem.F.slot_dict_iter hT PySem.F.entry_dict_iter ?_ (PySem.F.args_dict_iter_1 _))
  unfold Builtin.«dict.__iter__» Builtin.Dict.dictSlotNone
  refine wpAny_bind (wpAny_bind (wpAny_notOrdered_dict hT (show wpAny _ _ (pure (Value.ref d)) _ _ s from wpAny_pure ?_)))
  show wpAny _ _ (Builtin.Dict.showsAll d >>= _) _ _ s
  unfold Builtin.Dict.showsAll
  rw [if_neg (by rw [lo]; simp)]
  refine wpAny_bind (wpAny_pure (wpAny_bind (wpAny_dictEntries ho hdat (wpAny_bind (wpAny_dictEpoch ho hdat ?_)))))
  exact wpAny_bind (wpAny_newObj_type (wpAny_pure ⟨_, rfl, "dict_keyiterator", _, ⟨_, Heap.get?_push_size _ rfl, rfl⟩, PySem.F.slot_dict_keyiterator_next.lookup, by simpa [rawInt] using hQ⟩))

theorem next_dat {Q : Option Value → Shared → Prop} (hit : s.heap.IsKeyIter it d i es.size ep) (hm : DAt s.heap d es ep) (hlt : i < es.size)
    (hQ : ∀ h', h'.IsKeyIter it d (i + 1) es.size ep → Heap.SameBut it s.heap h' → Q (some es[i].key) { s with heap := h' }) : wpAny (model prog w) A (pyNext (.ref it)) Q E s := by
  have hT := hit.typeIs
  obtain ⟨o, ho, hc, hd⟩ := hit
  obtain ⟨od, hod, -, hdd⟩ := hm
  unfold pyNext
  refine wpAny_bind (wpAny_attempt (wpAny_callSpecial?_slot (name := Str.ofString "__next__") hT PySem.F.slot_dict_keyiterator_next (wpAny_call_entry PySem.F.slot_dict_keyiterator_next hT PySem.F.entry_dict_keyiterator_next ?_ (PySem.F.args_dict_keyiterator_next_1 _))))
  refine wpAny_bind (wpAny_pure (wpAny_bind (wpAny_bind ?_)))
  first | refine wpAny_bind (wpAny_typeNameOfWhole_keyiter hT (wpAny_pure ?_)) | refine wpAny_bind (wpAny_typeNameOf_keyiter hT (wpAny_pure ?_))
  refine wpAny_bind (wpAny_fieldsOf ho hd ?_)
  simp only [show Builtin.Dict_items.ownsTuple "dict_keyiterator" = false from by decide, Bool.false_eq_true, if_false]
  show wpAny _ _ (if (Value.ref d == Value.none) = true then _ else _) _ _ s
  rw [if_neg (show ¬ ((Value.ref d == Value.none) = true) from Bool.false_ne_true)]
  refine wpAny_bind (wpAny_pure (wpAny_bind (wpAny_dictEntries hod hdd ?_)))
  rw [if_neg (by simp)]
  refine wpAny_bind (wpAny_pure (wpAny_bind (wpAny_dictEpoch hod hdd ?_)))
  rw [if_neg (by simp)]
  refine wpAny_pure ?_
  simp only [show ¬ ((i : Int) < 0) from by omega, if_false, Int.toNat_natCast, Array.getElem?_eq_getElem hlt]
  refine wpAny_bind ?_
  first | refine wpAny_bind (wpAny_typeNameOfWhole_keyiter hT (wpAny_pure ?_)) | refine wpAny_bind (wpAny_typeNameOf_keyiter hT (wpAny_pure ?_))
  refine wpAny_bind (wpAny_isOneOf_keyiter hT ?_)
  show wpAny _ _ (setField (.ref it) 1 (rawInt ((i : Int) + 1)) >>= _) _ _ s
  refine wpAny_bind (wpAny_setField ho hd (by simp) ?_)
  have hit' : (s.heap.update it (Obj.mapFields (·.setIfInBounds 1 (rawInt ((i : Int) + 1))))).IsKeyIter it d (i + 1) es.size ep :=
    ⟨_, Heap.get?_update_self _ ho (Obj.isFreed_of_fields (Obj.data_mapFields hd _)), (Obj.cls_mapFields ..).trans hc, by rw [Obj.data_mapFields hd]; simp [rawInt]⟩
  refine wpAny_bind (wpAny_holding (wpAny_bind (wpAny_isOneOf_keyiter (s := { s with heap := s.heap.update it (Obj.mapFields (·.setIfInBounds 1 (rawInt ((i : Int) + 1)))) }) hit'.typeIs ?_)))
  show wpAny _ _ (pure es[i].key) _ _ _
  exact wpAny_pure (wpAny_pure ⟨_, rfl, wpAny_pure (hQ _ hit' (Heap.SameBut.update ..))⟩)

theorem last_dat {Q : Option Value → Shared → Prop} (hh : A.handled = none) (hit : s.heap.IsKeyIter it d es.size es.size ep) (hm : DAt s.heap d es ep)
    (hQ : ∀ h', Heap.ExtBut it s.heap h' → Q none { s with heap := h' }) : wpAny (model prog w) A (pyNext (.ref it)) Q E s := by
  have hT := hit.typeIs
  obtain ⟨o, ho, hc, hd⟩ := hit
  obtain ⟨od, hod, -, hdd⟩ := hm
  unfold pyNext
  refine wpAny_bind (wpAny_attempt (wpAny_callSpecial?_slot (name := Str.ofString "__next__") hT PySem.F.slot_dict_keyiterator_next (wpAny_call_entry PySem.F.slot_dict_keyiterator_next hT PySem.F.entry_dict_keyiterator_next ?_ (PySem.F.args_dict_keyiterator_next_1 _))))
  refine wpAny_bind (wpAny_pure (wpAny_bind (wpAny_bind ?_)))
  first | refine wpAny_bind (wpAny_typeNameOfWhole_keyiter hT (wpAny_pure ?_)) | refine wpAny_bind (wpAny_typeNameOf_keyiter hT (wpAny_pure ?_))
  refine wpAny_bind (wpAny_fieldsOf ho hd ?_)
  simp only [show Builtin.Dict_items.ownsTuple "dict_keyiterator" = false from by decide, Bool.false_eq_true, if_false]
  show wpAny _ _ (if (Value.ref d == Value.none) = true then _ else _) _ _ s
  rw [if_neg (show ¬ ((Value.ref d == Value.none) = true) from Bool.false_ne_true)]
  refine wpAny_bind (wpAny_pure (wpAny_bind (wpAny_dictEntries hod hdd ?_)))
  rw [if_neg (by simp)]
  refine wpAny_bind (wpAny_pure (wpAny_bind (wpAny_dictEpoch hod hdd ?_)))
  rw [if_neg (by simp)]
  refine wpAny_pure ?_
  simp only [show ¬ ((es.size : Int) < 0) from by omega, if_false, Int.toNat_natCast, Array.getElem?_eq_none (Nat.le_refl es.size)]
  refine wpAny_bind ?_
  first | refine wpAny_bind (wpAny_typeNameOfWhole_keyiter hT (wpAny_pure ?_)) | refine wpAny_bind (wpAny_typeNameOf_keyiter hT (wpAny_pure ?_))
  show wpAny _ _ (setField (.ref it) 0 .none >>= _) _ _ s
  refine wpAny_bind (wpAny_setField ho hd (by simp) ?_)
  show wpAny _ _ (newExc (.type "StopIteration") [] >>= _) _ _ _
  refine wpAny_bind ?_
  simp only [newExc, newTuple]
  refine wpAny_bind (wpAny_newObj_type ?_ (by size_fits))
  refine wpAny_bind (m := firstArgMember _ _) (wpAny_of_eq (a := Value.none) (by first | rfl | (simp only [firstArgMember]; rfl)) ?_)
  refine wpAny_newObj_type ?_ (by size_fits)
  simp only [raiseNew]
  refine wpAny_bind (wpAny_handled ?_)
  rw [show A.in1.handled = none from hh]
  refine wpAny_bind (wpAny_pure (wpAny_throw ?_))
  refine wpAny_bind (wpAny_isInstance (T := "StopIteration") (b := true) ⟨_, Heap.get?_push_size _ rfl, rfl⟩ isSubtype_stop ?_)
  exact wpAny_pure (hQ _ (((Heap.SameBut.update ..).extBut.push _).push _))

theorem walks_dat (hh : A.handled = none) (I : Addr) (hne : d ≠ I) : Walks prog w A I [I, d] [I] es.size (fun i v => ∃ e, es[i]? = some e ∧ v = e.key) (fun i h => h.IsKeyIter I d i es.size ep ∧ DAt h d es ep) where
  sub := fun b hb => by simp at hb; simp [hb]
  frame := fun _ _ _ st hk => ⟨let ⟨o, e, r⟩ := st.1; ⟨o, hk I (by simp) o e, r⟩, st.2.at fun o e => hk d (by simp) o e⟩
  item := fun i s Q E hi st hQ => next_dat st.1 st.2 hi fun h' hit' hs' =>
    hQ _ h' s.toks ⟨es[i], by simp [hi], rfl⟩ ⟨hit', st.2.at fun o e => (hs'.2 d hne).trans e⟩ fun b o hb e => hs'.extBut b o (fun h => hb (by simp [h])) e
  done := fun s Q E st hQ => last_dat hh st.1 st.2 fun h' he' => hQ h' s.toks fun b o hb e => he' b o (fun h => hb (by simp [h])) e
  self := fun _ _ _ _ st hQ => wpAny_pyIter_keyiter st.1 hQ
theorem src_dat (lo : (d == sysModules) = false) : KdlSrc prog w "dict" d d es.size (fun i v => ∃ e, es[i]? = some e ∧ v = e.key) (fun h => DAt h d es ep) where
  type := fun _ hm => hm.typeIs
  there := fun _ hm => ⟨let ⟨_, ho, _⟩ := hm; Heap.lt_size ho, let ⟨_, ho, _⟩ := hm; Heap.lt_size ho⟩
  keep := fun _ _ hm hk => hm.at fun o e => hk d (.inl rfl) o e
  notList := by decide
  notTuple := by decide
  hint := fun _ _ _ _ hm hq => kdl_hint_dict hm.typeIs hq
  iter := fun _ s hh hm => ⟨_, _, (fun _ _ hq => iter_dat lo hm hq), walks_dat hh _ (let ⟨_, ho, _⟩ := hm; Nat.ne_of_lt (Heap.lt_size ho)), ⟨⟨_, Heap.get?_push_size _ rfl, rfl, rfl⟩, hm.at fun o e => Heap.get?_push_of_some _ e⟩⟩
end
end

section
open PySem.Calls
theorem HOk.keep {hd : Option Value} {h h' : Heap} (x : HOk hd h) (k : ∀ b o, h.get? b = some o → h'.get? b = some o) : HOk hd h' :=
  x.elim .inl fun ⟨ex, o, vs, e, ho, r⟩ => .inr ⟨ex, o, vs, e, k _ _ ho, r⟩
noncomputable def hdA : Option Value → List Addr
  | some (.ref a) => [a]
  | _ => []
theorem HOk.at {hd : Option Value} {h h' : Heap} (x : HOk hd h) (k : ∀ b ∈ hdA hd, ∀ o, h.get? b = some o → h'.get? b = some o) : HOk hd h' :=
  x.elim .inl fun ⟨ex, o, vs, e, ho, r⟩ => .inr ⟨ex, o, vs, e, k ex (by rw [e]; exact .head _) _ ho, r⟩
theorem HOk.there {hd : Option Value} {h : Heap} (x : HOk hd h) : ∀ b ∈ hdA hd, ∃ o, h.get? b = some o := by
  intro b hb
  rcases x with rfl | ⟨ex, o, vs, rfl, ho, _⟩
  · nomatch hb
  · rw [List.mem_singleton.mp hb]; exact ⟨o, ho⟩
theorem hd_ne {hd : Option Value} {g : Heap} {I b : Addr} (x : HOk hd g) (hI : g.get? I = none) (hb : b ∈ hdA hd) : b ≠ I := by
  rintro rfl
  obtain ⟨o, e⟩ := x.there _ hb
  rw [hI] at e; cases e
theorem hd_notin {hd : Option Value} {g : Heap} {I : Addr} (x : HOk hd g) (hI : g.get? I = none) : I ∉ hdA hd := fun h => hd_ne x hI h rfl
theorem upd_hok {hd : Option Value} {h : Heap} {it : Addr} {f : Obj → Obj} (x : HOk hd h) (hne : it ∉ hdA hd) : HOk hd (h.update it f) :=
  x.at fun b hb o e => (Heap.get?_update_other _ _ (show it ≠ b from by rintro rfl; exact hne hb)).trans e
theorem upd_ext {h h' : Heap} {it : Addr} {f : Obj → Obj} (k : ∀ b o, (h.update it f).get? b = some o → h'.get? b = some o) : Heap.ExtBut it h h' :=
  fun b o hb e => k b o ((Heap.get?_update_other _ _ (Ne.symm hb)).trans e)
theorem entry_unchain : entryFor table "proto.unchain" = some Builtin.«proto.unchain» := entryFor_of_fast (by kernel_rfl)
theorem plain_unchain : plainId "proto.unchain" = true := by decide +kernel
section
variable {prog : Program} {w : World} {A : Around} {E : Value → Shared → Prop} {s : Shared}
theorem stop_end {α : Type} {Q : α → Shared → Prop} (hH : HOk A.handled s.heap)
    (hE : ∀ h' e, (∀ b o, s.heap.get? b = some o → h'.get? b = some o) → (∃ o, h'.get? e = some o ∧ o.cls = .type "StopIteration") → E (.ref e) { s with heap := h' }) :
    wpAny (model prog w) A (newExc (.type "StopIteration") [] >>= fun e => (raiseNew e : Sem α)) Q E s := by
  refine wpAny_bind ?_
  simp only [newExc, newTuple]
  refine wpAny_bind (wpAny_newObj_type ?_ (by size_fits))
  refine wpAny_bind (m := firstArgMember _ _) (wpAny_of_eq (a := Value.none) (by first | rfl | (simp only [firstArgMember]; rfl)) ?_)
  refine wpAny_newObj_type ?_ (by size_fits)
  simp only [raiseNew]
  refine wpAny_bind (wpAny_handled ?_)
  generalize hG : s.heap.push { cls := .type "tuple", dict := none, data := .seq ([] : List Value).toArray } = G
  have kG : ∀ b o, s.heap.get? b = some o → G.get? b = some o := fun b o e => by rw [← hG]; exact Heap.get?_push_of_some _ e
  rcases hH with h0 | ⟨ex, o, vs, h1, ho, hd, h2⟩
  · rw [h0]
    refine wpAny_bind (wpAny_pure (wpAny_throw (hE _ _ (fun b o e => Heap.get?_push_of_some _ (kG b o e)) ⟨_, Heap.get?_push_size _ rfl, rfl⟩)))
  · rw [h1]
    have hne : ex ≠ G.objs.size := Nat.ne_of_lt (Heap.lt_size (kG _ _ ho))
    dsimp only
    rw [if_pos (by simpa using hne)]
    have ho' := Heap.get?_push_of_some (h := G) { cls := .type "StopIteration", dict := none, data := .fields (#[Value.ref s.heap.objs.size, .none, .none, .none, .bool false, .none] ++ ownMembersOf (.type "StopIteration") []) } (kG _ _ ho)
    refine wpAny_bind (wpAny_holding (wpAny_runValue (codeAny_builtin entry_unchain ?_)))
    rw [Around.under_plainId plain_unchain _]
    unfold Builtin.«proto.unchain»
    refine wpAny_bind (wpAny_field ho' hd h2 ?_)
    rw [if_pos (show (Value.none == Value.none) = true from rfl)]
    refine wpAny_bind (wpAny_pure ?_)
    refine wpAny_pure ?_
    show wpAny _ _ (setField (.ref G.objs.size) 2 (Value.ref ex) >>= fun _ => throw (Value.ref G.objs.size)) _ _ _
    refine wpAny_bind (wpAny_setField (Heap.get?_push_size _ rfl) rfl (by simp; omega) (wpAny_throw (hE _ _ (fun b o' e => ?_) ?_)))
    · have k2 := Heap.get?_push_of_some (h := G) { cls := .type "StopIteration", dict := none, data := .fields (#[Value.ref s.heap.objs.size, .none, .none, .none, .bool false, .none] ++ ownMembersOf (.type "StopIteration") []) } (kG _ _ e)
      exact (Heap.get?_update_other _ _ (Nat.ne_of_gt (Heap.lt_size (kG _ _ e)))).trans k2
    · exact ⟨_, Heap.get?_update_self _ (Heap.get?_push_size _ rfl) rfl, rfl⟩
theorem list_endH {it l : Addr} {i : Nat} {items} {Q : Option Value → Shared → Prop} (hH : HOk A.handled s.heap) (hne : it ∉ hdA A.handled)
    (hit : s.heap.IsListIter it l i) (hl : s.heap.IsList l items) (hx : items[i]? = none)
    (hQ : ∀ h', Heap.ExtBut it s.heap h' → Q none { s with heap := h' }) : wpAny (model prog w) A (pyNext (.ref it)) Q E s := by
  obtain ⟨o, ho, hc, hd⟩ := id hit
  obtain ⟨ol, hol, _, nl, hdl⟩ := hl
  unfold pyNext
  refine wpAny_bind (wpAny_attempt (wpAny_callSpecial?_slot (name := Str.ofString "__next__") hit.typeIs slot_listiter_next
    (wpAny_call_entry slot_listiter_next hit.typeIs entry_listiter_next ?_ (args_listiter_next _))))
  show wpAny _ _ (field (.ref it) 0 >>= _) _ _ s
  refine wpAny_bind (wpAny_field ho hd (x := .ref l) rfl ?_)
  show wpAny _ _ (if (Value.ref l == Value.none) = true then _ else _) _ _ s
  rw [if_neg (show ¬ ((Value.ref l == Value.none) = true) from Bool.false_ne_true)]
  show wpAny _ _ (field (.ref it) 1 >>= _) _ _ s
  refine wpAny_bind (wpAny_field ho hd (x := .int i 0) rfl ?_)
  show wpAny _ _ (seqItems? (.ref l) >>= _) _ _ s
  refine wpAny_bind (wpAny_seqItems hol hdl ?_)
  simp only [Int.toNat_natCast, hx]
  refine wpAny_bind (wpAny_rule (wpAny_bind (wpAny_setField ho hd (by simp) ?_)))
  show wpAny _ _ (newExc (.type "StopIteration") [] >>= _) _ _ _
  refine stop_end (upd_hok hH hne) fun h' e k ⟨oe, he, hce⟩ => ?_
  refine wpAny_bind (wpAny_isInstance (T := "StopIteration") (b := true) ⟨_, he, hce⟩ isSubtype_stop ?_)
  exact wpAny_pure (hQ _ (upd_ext k))
theorem ascii_endH {it : Addr} {x : Str} {t : Tok} {i : Nat} {Q : Option Value → Shared → Prop} (hH : HOk A.handled s.heap) (hne : it ∉ hdA A.handled)
    (hit : s.heap.IsStrIter it "str_ascii_iterator" x t i) (hx : x.cps[i]? = none)
    (hQ : ∀ h', Heap.ExtBut it s.heap h' → Q none { s with heap := h' }) : wpAny (model prog w) A (pyNext (.ref it)) Q E s := by
  obtain ⟨o, ho, hc, hd⟩ := id hit
  unfold pyNext
  refine wpAny_bind (wpAny_attempt (wpAny_callSpecial?_slot (name := Str.ofString "__next__") hit.typeIs F.slot_str_ascii_iterator_next
    (wpAny_call_entry F.slot_str_ascii_iterator_next hit.typeIs F.entry_str_ascii_iterator_next ?_ (F.args_str_ascii_iterator_next_1 _))))
  show wpAny _ _ (field (.ref it) 0 >>= _) _ _ s
  refine wpAny_bind (wpAny_field ho hd (x := .str x t) rfl ?_)
  show wpAny _ _ (field (.ref it) 1 >>= _) _ _ s
  refine wpAny_bind (wpAny_field ho hd (x := .int i 0) rfl ?_)
  simp only [Int.toNat_natCast, hx]
  refine wpAny_bind (wpAny_rule (wpAny_bind (wpAny_setField ho hd (by simp) (wpAny_bind (wpAny_letGo ?_)))))
  show wpAny _ _ (newExc (.type "StopIteration") [] >>= _) _ _ _
  refine stop_end (upd_hok hH hne) fun h' e k ⟨oe, he, hce⟩ => ?_
  refine wpAny_bind (wpAny_isInstance (T := "StopIteration") (b := true) ⟨_, he, hce⟩ isSubtype_stop ?_)
  exact wpAny_pure (hQ _ (upd_ext k))
theorem wide_endH {it : Addr} {x : Str} {t : Tok} {i : Nat} {Q : Option Value → Shared → Prop} (hH : HOk A.handled s.heap) (hne : it ∉ hdA A.handled)
    (hit : s.heap.IsStrIter it "str_iterator" x t i) (hx : x.cps[i]? = none)
    (hQ : ∀ h', Heap.ExtBut it s.heap h' → Q none { s with heap := h' }) : wpAny (model prog w) A (pyNext (.ref it)) Q E s := by
  obtain ⟨o, ho, hc, hd⟩ := id hit
  unfold pyNext
  refine wpAny_bind (wpAny_attempt (wpAny_callSpecial?_slot (name := Str.ofString "__next__") hit.typeIs F.slot_str_iterator_next
    (wpAny_call_entry F.slot_str_iterator_next hit.typeIs F.entry_str_iterator_next ?_ (F.args_str_iterator_next_1 _))))
  show wpAny _ _ (field (.ref it) 0 >>= _) _ _ s
  refine wpAny_bind (wpAny_field ho hd (x := .str x t) rfl ?_)
  show wpAny _ _ (field (.ref it) 1 >>= _) _ _ s
  refine wpAny_bind (wpAny_field ho hd (x := .int i 0) rfl ?_)
  simp only [Int.toNat_natCast, hx]
  refine wpAny_bind (wpAny_rule (wpAny_bind (wpAny_setField ho hd (by simp) (wpAny_bind (wpAny_letGo ?_)))))
  show wpAny _ _ (newExc (.type "StopIteration") [] >>= _) _ _ _
  refine stop_end (upd_hok hH hne) fun h' e k ⟨oe, he, hce⟩ => ?_
  refine wpAny_bind (wpAny_isInstance (T := "StopIteration") (b := true) ⟨_, he, hce⟩ isSubtype_stop ?_)
  exact wpAny_pure (hQ _ (upd_ext k))
theorem dict_endH {d it : Addr} {es : Array DictEntry} {ep : Nat} {Q : Option Value → Shared → Prop} (hH : HOk A.handled s.heap) (hne : it ∉ hdA A.handled) (hit : s.heap.IsKeyIter it d es.size es.size ep) (hm : DAt s.heap d es ep)
    (hQ : ∀ h', Heap.ExtBut it s.heap h' → Q none { s with heap := h' }) : wpAny (model prog w) A (pyNext (.ref it)) Q E s := by
  have hT := hit.typeIs
  obtain ⟨o, ho, hc, hd⟩ := hit
  obtain ⟨od, hod, -, hdd⟩ := hm
  unfold pyNext
  refine wpAny_bind (wpAny_attempt (wpAny_callSpecial?_slot (name := Str.ofString "__next__") hT PySem.F.slot_dict_keyiterator_next (wpAny_call_entry PySem.F.slot_dict_keyiterator_next hT PySem.F.entry_dict_keyiterator_next ?_ (PySem.F.args_dict_keyiterator_next_1 _))))
  refine wpAny_bind (wpAny_pure (wpAny_bind (wpAny_bind ?_)))
  first | refine wpAny_bind (wpAny_typeNameOfWhole_keyiter hT (wpAny_pure ?_)) | refine wpAny_bind (wpAny_typeNameOf_keyiter hT (wpAny_pure ?_))
  refine wpAny_bind (wpAny_fieldsOf ho hd ?_)
  simp only [show Builtin.Dict_items.ownsTuple "dict_keyiterator" = false from by decide, Bool.false_eq_true, if_false]
  show wpAny _ _ (if (Value.ref d == Value.none) = true then _ else _) _ _ s
  rw [if_neg (show ¬ ((Value.ref d == Value.none) = true) from Bool.false_ne_true)]
  refine wpAny_bind (wpAny_pure (wpAny_bind (wpAny_dictEntries hod hdd ?_)))
  rw [if_neg (by simp)]
  refine wpAny_bind (wpAny_pure (wpAny_bind (wpAny_dictEpoch hod hdd ?_)))
  rw [if_neg (by simp)]
  refine wpAny_pure ?_
  simp only [show ¬ ((es.size : Int) < 0) from by omega, if_false, Int.toNat_natCast, Array.getElem?_eq_none (Nat.le_refl es.size)]
  refine wpAny_bind ?_
  first | refine wpAny_bind (wpAny_typeNameOfWhole_keyiter hT (wpAny_pure ?_)) | refine wpAny_bind (wpAny_typeNameOf_keyiter hT (wpAny_pure ?_))
  show wpAny _ _ (setField (.ref it) 0 .none >>= _) _ _ s
  refine wpAny_bind (wpAny_setField ho hd (by simp) ?_)
  show wpAny _ _ (newExc (.type "StopIteration") [] >>= _) _ _ _
  refine stop_end (upd_hok hH hne) fun h' e k ⟨oe, he, hce⟩ => ?_
  refine wpAny_bind (wpAny_isInstance (T := "StopIteration") (b := true) ⟨_, he, hce⟩ isSubtype_stop ?_)
  exact wpAny_pure (hQ _ (upd_ext k))

theorem walks_dictH {d : Addr} {es : Array DictEntry} {ep : Nat} {g : Heap} (hH : HOk A.handled g) (I : Addr) (hne : d ≠ I) (hgI : g.get? I = none) : Walks prog w A I (I :: d :: hdA A.handled) [I] es.size (fun i v => ∃ e, es[i]? = some e ∧ v = e.key) (fun i h => (h.IsKeyIter I d i es.size ep ∧ DAt h d es ep) ∧ HOk A.handled h) where
  sub := fun b hb => by simp at hb; simp [hb]
  frame := fun _ _ _ st hk => ⟨⟨let ⟨o, e, r⟩ := st.1.1; ⟨o, hk I (by simp) o e, r⟩, st.1.2.at fun o e => hk d (by simp) o e⟩, st.2.at fun b hb => hk b (by simp [hb])⟩
  item := fun i s Q E hi st hQ => next_dat st.1.1 st.1.2 hi fun h' hit' hs' =>
    hQ _ h' s.toks ⟨es[i], by simp [hi], rfl⟩ ⟨⟨hit', st.1.2.at fun o e => (hs'.2 d hne).trans e⟩, st.2.at fun b hb o e => (hs'.2 b (hd_ne hH hgI hb)).trans e⟩ fun b o hb e => hs'.extBut b o (fun h => hb (by simp [h])) e
  done := fun s Q E st hQ => dict_endH st.2 (hd_notin hH hgI) st.1.1 st.1.2 fun h' he' => hQ h' s.toks fun b o hb e => he' b o (fun h => hb (by simp [h])) e
  self := fun _ _ _ _ st hQ => wpAny_pyIter_keyiter st.1.1 hQ
theorem walks_listH {ax : Addr} {g : Heap} (hH : HOk A.handled g) (I : Addr) (hne : ax ≠ I) (hgI : g.get? I = none) (items : Array Value) :
    Walks prog w A I (I :: ax :: hdA A.handled) [I] items.size (fun i v => items[i]? = some v) (fun i h => (h.IsListIter I ax i ∧ h.IsList ax items) ∧ HOk A.handled h) where
  sub := fun b hb => by simp at hb; simp [hb]
  frame := fun _ _ _ st hk => ⟨⟨st.1.1.at fun o e => hk I (by simp) o e, st.1.2.at fun o e => hk ax (by simp) o e⟩, st.2.at fun b hb => hk b (by simp [hb])⟩
  item := fun i s Q E hi st hQ => by
    refine wpAny_pyNext_list_item st.1.1 st.1.2 (x := items[i]) (by simp [hi]) fun h' hit' hs' => ?_
    exact hQ _ h' s.toks (by simp [hi]) ⟨⟨hit', st.1.2.extBut hs'.extBut hne⟩, st.2.at fun b hb o e => (hs'.2 b (hd_ne hH hgI hb)).trans e⟩ fun b o hb e => hs'.extBut b o (fun h => hb (by simp [h])) e
  done := fun s Q E st hQ => list_endH st.2 (hd_notin hH hgI) st.1.1 st.1.2 (by simp) fun h' he' => hQ h' s.toks fun b o hb e => he' b o (fun h => hb (by simp [h])) e
  self := fun _ _ _ _ st hQ => wpAny_pyIter_listiter st.1.1 hQ
theorem walks_asciiH {g : Heap} (hH : HOk A.handled g) (I : Addr) (hgI : g.get? I = none) (x : Str) (t : Tok) :
    Walks prog w A I (I :: hdA A.handled) [I] x.cps.size (SignAt x) (fun i h => h.IsStrIter I "str_ascii_iterator" x t i ∧ HOk A.handled h) where
  sub := fun b hb => by simp at hb; simp [hb]
  frame := fun _ _ _ st hk => ⟨let ⟨o, ho, r⟩ := st.1; ⟨o, hk I (by simp) o ho, r⟩, st.2.at fun b hb => hk b (by simp [hb])⟩
  item := fun i s Q E hi st hQ => by
    refine wpAny_pyNext_ascii_item st.1 (c := x.cps[i]) (by simp [hi]) fun h' hit' hs' => ?_
    exact hQ _ h' (s.toks + 1) ⟨_, _, by simp [hi], rfl⟩ ⟨hit', st.2.at fun b hb o e => (hs'.2 b (hd_ne hH hgI hb)).trans e⟩ fun b o hb e => hs'.extBut b o (fun h => hb (by simp [h])) e
  done := fun s Q E st hQ => ascii_endH st.2 (hd_notin hH hgI) st.1 (by simp) fun h' he' => hQ h' s.toks fun b o hb e => he' b o (fun h => hb (by simp [h])) e
  self := fun _ _ _ _ st hQ => wpAny_pyIter_striter_ascii st.1 hQ
theorem walks_wideH {g : Heap} (hH : HOk A.handled g) (I : Addr) (hgI : g.get? I = none) (x : Str) (t : Tok) :
    Walks prog w A I (I :: hdA A.handled) [I] x.cps.size (SignAt x) (fun i h => h.IsStrIter I "str_iterator" x t i ∧ HOk A.handled h) where
  sub := fun b hb => by simp at hb; simp [hb]
  frame := fun _ _ _ st hk => ⟨let ⟨o, ho, r⟩ := st.1; ⟨o, hk I (by simp) o ho, r⟩, st.2.at fun b hb => hk b (by simp [hb])⟩
  item := fun i s Q E hi st hQ => by
    refine wpAny_pyNext_wide_item st.1 (c := x.cps[i]) (by simp [hi]) fun h' hit' hs' => ?_
    exact hQ _ h' (s.toks + 1) ⟨_, _, by simp [hi], rfl⟩ ⟨hit', st.2.at fun b hb o e => (hs'.2 b (hd_ne hH hgI hb)).trans e⟩ fun b o hb e => hs'.extBut b o (fun h => hb (by simp [h])) e
  done := fun s Q E st hQ => wide_endH st.2 (hd_notin hH hgI) st.1 (by simp) fun h' he' => hQ h' s.toks fun b o hb e => he' b o (fun h => hb (by simp [h])) e
  self := fun _ _ _ _ st hQ => wpAny_pyIter_striter_wide st.1 hQ
end
end

section
section
variable {prog : Program} {w : World} {A : Around} {s s₁ : Shared} {g h₀ : Heap} {L : Addr} {env : Env} {m : Str → Option Value} {news : List (Addr × Obj)}
theorem for_listH {E : Value → Shared → Prop} {Q : Flow → Shared → Prop} {x : Str} {body : List Stmt} {D : Addr} {items : Array Value} {n : Nat} {px : Pos}
    (J : Nat → (Str → Option Value) → List (Addr × Obj) → Prop) (hh : HOk A.handled g)
    (F : Fr g env.locals s.heap m) (N : News g env.locals s.heap news) (hD : s.heap.IsList D items) (hDk : (∃ o, g.get? D = some o) ∨ (∃ o, ∀ i m nw, J i m nw → (D, o) ∈ nw))
    (h0 : J 0 m news)
    (step : ∀ I i v m₁ news₁ oI h tk, (hi : items[i]? = some v) → J i m₁ news₁ → AllNe I news₁ → Fr g env.locals h (fun y => if y = x then some v else m₁ y) → News g env.locals h ((I, oI) :: news₁) →
      wpAny (model prog w) A (execs body env) (ForStep g env.locals I oI s (J (i + 1)) Q) E { s with heap := h, toks := tk })
    (done : ∀ h tk m' news', Fr g env.locals h m' → News g env.locals h news' → J n m' news' → Q .next { s with heap := h, toks := tk })
    (hx : env.kindOf x = some .local) (hp : (env.scope.kind == .class || (env.scope.kind == .module && env.locals != env.globals)) = false)
    (hE : PassesOwn (model prog w) A env E) (hn : items.size = n) :
    wpAny (model prog w) A (pyIter (.ref D)) (fun it s₂ => codeAny (model prog w) A (.forLoop (.Name x px) it body [] env) (fun r s' => match r with | .ok f => Q f s' | .error e => cameBackBy (model prog w) A env E e s') s₂) E s := by
  subst hn
  have hDI : D ≠ s.heap.objs.size := by obtain ⟨o, e, _⟩ := hD; exact Nat.ne_of_lt (Heap.lt_size e)
  have hLI : env.locals ≠ s.heap.objs.size := Nat.ne_of_lt F.ns.lt
  have hLD : env.locals ≠ D := by
    rintro q
    obtain ⟨o, es, ep, e, hd, _⟩ := F.ns
    obtain ⟨o', e', _, n', hd'⟩ := hD
    rw [q, e'] at e; cases e; rw [hd'] at hd; cases hd
  have hgI : g.get? s.heap.objs.size = none := fresh_of_stays (fun b o q => F.keep b o q) (Heap.get?_none_of_le (Nat.le_refl _))
  have hgL : g.get? env.locals = none := Heap.get?_none_of_le F.above
  have hLf : env.locals ∉ s.heap.objs.size :: D :: hdA A.handled := by
    intro hm
    rcases List.mem_cons.mp hm with q | hm
    · exact hLI q
    · rcases List.mem_cons.mp hm with q | hm
      · exact hLD q
      · exact hd_ne hh hgL hm rfl
  refine wpAny_pyIter_list hD ?_
  refine for_walk (s := { s with heap := s.heap.push { cls := .type "list_iterator", data := .fields #[.ref D, .int 0 0] } }) J (walks_listH hh _ hDI hgI items) hx hp hgI hLI hLf ?_ ?_ (F.push _) ?_ ?_ h0 ⟨_, Heap.get?_push_size _ rfl⟩ (fun i h st => by obtain ⟨o, e, _⟩ := st.1.1; exact ⟨o, e⟩) ?_ ?_ hE
  · intro b hb
    rcases List.mem_cons.mp hb with rfl | hb
    · exact .inl rfl
    · rcases List.mem_cons.mp hb with rfl | hb
      · rcases hDk with q | q
        · exact .inr (.inl q)
        · exact .inr (.inr q)
      · exact .inr (.inl (hh.there b hb))
  · exact ⟨⟨⟨_, Heap.get?_push_size _ rfl, rfl, rfl⟩, hD.push _⟩, hh.keep fun b o e => Heap.get?_push_of_some _ (F.keep b o e)⟩
  · intro p hp'; exact ⟨Heap.get?_push_of_some _ (N p hp').1, (N p hp').2⟩
  · exact allNe_of fun p hp' => Nat.ne_of_lt (Heap.lt_size (N p hp').1)
  · intro i v m₁ news₁ oI h tk hi hv hJ hne F₁ N₁
    exact wpAny_mono (step _ i v m₁ news₁ oI h tk hv hJ hne F₁ N₁) (fun _ _ q => q.at) fun _ _ e => e
  · intro h tk m' news' F₁ N₁ hJ
    exact done h tk m' news' F₁ N₁ hJ

theorem src_strH {x : Str} {t : Tok} (hh : HOk A.handled h₀) (hk : ∀ b o, h₀.get? b = some o → s₁.heap.get? b = some o) : Src prog w A h₀ L (.str x t) s₁ x.cps.size (SignAt x) (fun _ => True) := by
  intro Q E h
  have hgI : s₁.heap.get? s₁.heap.objs.size = none := Heap.get?_none_of_le (Nat.le_refl _)
  have sz : ∀ o : Obj, ∀ b ∈ s₁.heap.objs.size :: hdA A.handled, b < (s₁.heap.push o).objs.size := fun o b hb => by
    show b < (s₁.heap.push _).objs.size
    rw [Heap.size_push]
    rcases List.mem_cons.mp hb with rfl | hb
    · exact Nat.lt_succ_self _
    · obtain ⟨o', e⟩ := hh.there b hb
      exact Nat.lt_succ_of_lt (Heap.lt_size (hk _ _ e))
  have hp : ∀ o, HOk A.handled (s₁.heap.push o) := fun o => hh.keep fun b o' e => Heap.get?_push_of_some _ (hk _ _ e)
  cases ha : x.cps.all (· < 128)
  · refine wpAny_pyIter_wide ha (h _ _ _ (walks_wideH (hh.keep hk) _ hgI x t) (fun i h st => by obtain ⟨o, e, _⟩ := st.1; exact ⟨o, e⟩) (fun i h h' o nw st e e' k _ _ => ⟨?_, hh.keep k⟩) ⟨⟨_, Heap.get?_push_size _ rfl, rfl, rfl⟩, hp _⟩ (sz _) (Heap.get?_push_size _ rfl))
    obtain ⟨o', q, r⟩ := st.1; rw [e] at q; cases q; exact ⟨o, e', r⟩
  · refine wpAny_pyIter_ascii ha (h _ _ _ (walks_asciiH (hh.keep hk) _ hgI x t) (fun i h st => by obtain ⟨o, e, _⟩ := st.1; exact ⟨o, e⟩) (fun i h h' o nw st e e' k _ _ => ⟨?_, hh.keep k⟩) ⟨⟨_, Heap.get?_push_size _ rfl, rfl, rfl⟩, hp _⟩ (sz _) (Heap.get?_push_size _ rfl))
    obtain ⟨o', q, r⟩ := st.1; rw [e] at q; cases q; exact ⟨o, e', r⟩

theorem Walks.weaken {I : Addr} {fp wr : List Addr} {n : Nat} {P P' : Nat → Value → Prop} {St : Nat → Heap → Prop} (W : Walks prog w A I fp wr n P St) (h : ∀ i v, P i v → P' i v) : Walks prog w A I fp wr n P' St where
  sub := W.sub
  frame := W.frame
  item := fun i s Q E hi st hQ => W.item i s Q E hi st fun v h' tk p => hQ v h' tk (h _ _ p)
  done := W.done
  self := W.self

theorem pairs_at {K : Type} [DecidableEq K] {knd : PySem.KeyKind prog w K} : ∀ {es : List DictEntry} {kvs : List (K × Value)}, Pairs knd es kvs → ∀ {i : Nat} {e : DictEntry}, es[i]? = some e → ∃ k x, kvs[i]? = some (k, x) ∧ knd.is k e.key = true
  | _, _, .nil, i, e, he => by simp at he
  | _, _, .cons a b r, 0, e, he => by simp at he; subst he; exact ⟨_, _, rfl, a⟩
  | _, _, .cons a b r, i + 1, e, he => by simpa using pairs_at r (by simpa using he)

theorem src_dictH {K : Type} [DecidableEq K] {knd : PySem.KeyKind prog w K} {d : Addr} {oD : Obj} {kvs : List (K × Value)} (hh : HOk A.handled h₀) (hk : ∀ b o, h₀.get? b = some o → s₁.heap.get? b = some o) (hd : oD.IsDictOf knd kvs) (lo : (d == sysModules) = false) (ho : s₁.heap.get? d = some oD) :
    Src prog w A h₀ L (.ref d) s₁ kvs.length (fun i v => ∃ k x, kvs[i]? = some (k, x) ∧ knd.is k v = true) (fun nw => h₀.get? d = some oD ∨ (d, oD) ∈ nw) := by
  intro Q E h
  obtain ⟨es, ep, hc, hdat, hks, hps, hnd⟩ := hd
  have hlt := Heap.lt_size ho
  have hgI : s₁.heap.get? s₁.heap.objs.size = none := Heap.get?_none_of_le (Nat.le_refl _)
  have hsz : es.size = kvs.length := by rw [← hps.length]; simp
  have hD : ∀ {h : Heap}, h.get? d = some oD → DAt h d es ep := fun e => ⟨oD, e, hc, hdat⟩
  rw [← hsz] at h
  refine iter_dat lo (hD ho) (h _ _ _ (Walks.weaken (walks_dictH (hh.keep hk) _ (Nat.ne_of_lt hlt) hgI) fun i v q => ?_) (fun i h st => by obtain ⟨o, e, _⟩ := st.1.1; exact ⟨o, e⟩) (fun i h h' o nw st e e' k N S => ⟨⟨?_, ?_⟩, hh.keep k⟩) ⟨⟨⟨_, Heap.get?_push_size _ rfl, rfl, rfl⟩, hD (Heap.get?_push_of_some _ ho)⟩, hh.keep fun b o' e => Heap.get?_push_of_some _ (hk _ _ e)⟩ (fun b hb => ?_) (Heap.get?_push_size _ rfl))
  · obtain ⟨e, he, rfl⟩ := q
    exact pairs_at hps (by simpa using he)
  · obtain ⟨o', q, r⟩ := st.1.1; rw [e] at q; cases q; exact ⟨o, e', r⟩
  · rcases S with S | S
    · exact hD (k _ _ S)
    · exact hD (N.get S)
  · show b < (s₁.heap.push _).objs.size
    rw [Heap.size_push]
    rcases List.mem_cons.mp hb with rfl | hb
    · exact Nat.lt_succ_self _
    · rcases List.mem_cons.mp hb with rfl | hb
      · exact Nat.lt_succ_of_lt hlt
      · obtain ⟨o', e⟩ := hh.there b hb
        exact Nat.lt_succ_of_lt (Heap.lt_size (hk _ _ e))
open LCg in
theorem CGo.ordH {elt : Expr} {xn : Str} {scope : Scope} {cl : List (Str × Addr)} {Fin : Shared → List Value → List (Addr × Obj) → Prop} {x : Str} {t : Tok} (hh : HOk A.handled h₀) (F : Fr h₀ L s₁.heap m) (N : News h₀ L s₁.heap news) (hsz : x.cps.size ≤ 1000000)
    (step : ∀ i ys c u I oI C oC D m₂ h tk (E' : Value → Shared → Prop), i < x.cps.size → IntsAre ys ((x.cps.toList.take i).map Int.ofNat) → x.cps[i]? = some c → NsObj oC m₂ → m₂ xn = some (.str ⟨#[c]⟩ u) → Fr h₀ L h m → News h₀ L h ((I, oI) :: (C, oC) :: (D, lst ys) :: news) → Off3 I C D news → ((@Ne Nat I C) ∧ (@Ne Nat I D) ∧ (@Ne Nat C D)) →
      wpAny (model prog w) A (eval elt (compEnvC scope cl C env)) (CEnd h₀ L m { s₁ with heap := h, toks := tk } I oI C oC D (lst ys) (fun y news' => news' = news ∧ ∃ t, y = .int (c : Int) t)) E' { s₁ with heap := h, toks := tk })
    (done : ∀ ys g, IntsAre ys (codesOf x) → ys.length = x.cps.size → Fin { s₁ with heap := g } ys news) : CGo prog w A h₀ L m env elt xn scope cl Fin (.str x t) s₁ := by
  refine CGo.mk x.cps.size (fun i ys nw => nw = news ∧ IntsAre ys ((x.cps.toList.take i).map Int.ofNat)) F N (src_strH hh F.keep) rfl hsz (fun _ _ _ _ => trivial) ⟨rfl, .nil⟩ ?_ ?_
  · rintro i ys nw hi ⟨rfl, hy⟩ v I oI C oC D m₂ h tk E' ⟨c, u, hc, rfl⟩ hC hx F₁ N₁ off ne
    refine wpAny_mono (step i ys c u I oI C oC D m₂ h tk E' hi hy hc hC hx F₁ N₁ off ne) (fun y s₂ q => ?_) fun _ _ e => e
    obtain ⟨h', tk', news', rfl, F', N', off', rfl, t, rfl⟩ := q
    refine ⟨h', tk', _, rfl, F', N', off', rfl, ?_⟩
    rw [codes_snoc hc]
    exact ints_app hy (.cons _ _ .nil)
  · rintro ys nw g ⟨rfl, hy⟩
    rw [codes_all] at hy
    refine done ys g hy ?_
    rw [hy.length]; simp [codesOf]
end
theorem hok_hide {hd : Option Value} {b h : Heap} {W : List Addr} (x : HOk hd b) (hb : b.StaysIn h) (hW : ∀ a ∈ W, b.get? a = none) : HOk hd (hideAll h W) :=
  x.keep fun a o e => hide_stays hb hW a o e
end

local macro_rules | `(tactic| walk_at "t_extend_mine") => `(tactic| (intro h' F' N'; (try k_sweep)))
section
noncomputable def esc1 (c : Int) : List Int := if c = 34 ∨ c = 92 then [92, c] else if c = 10 then [92, 110] else [c]
noncomputable def showF (cs : List Int) : List Int := [34] ++ cs.flatMap esc1 ++ [34]
theorem esc_len : ∀ cs : List Int, (cs.flatMap esc1).length ≤ 2 * cs.length
  | [] => by simp
  | c :: r => by
    have := esc_len r
    have h : (esc1 c).length ≤ 2 := by
      unfold esc1
      split
      · simp
      · split <;> simp
    simp only [List.flatMap_cons, List.length_append, List.length_cons]; omega
theorem esc_snoc {cs : List Int} {i : Nat} (h : i < cs.length) : (cs.take (i + 1)).flatMap esc1 = (cs.take i).flatMap esc1 ++ esc1 (cs.getD i 0) := by
  rw [take_snoc h]; simp

theorem esc1_q {c : Int} (q : c = 34 ∨ c = 92) : esc1 c = [92, c] := by unfold esc1; rw [if_pos q]
theorem esc1_n {c : Int} (q : c = 10) : esc1 c = [92, 110] := by subst q; rfl
theorem esc1_o {c : Int} (p : c ≠ 34) (q : c ≠ 92) (r : c ≠ 10) : esc1 c = [c] := by unfold esc1; rw [if_neg (fun h => h.elim p q), if_neg r]
inductive TqI (l : Addr) (cs : List Int) (i : Nat) (m : Str → Option Value) (nw : List (Addr × Obj)) : Prop
  | mk (e0 : m (Str.ofString "codes") = some (.ref l)) (fa : Addr) (accv : List Value) (na : Nat) (e1 : m (Str.ofString "found") = some (.ref fa)) (e2 : nw = [(fa, listOf (List.toArray accv) na)]) (e3 : IntsAre accv ([34] ++ (cs.take i).flatMap esc1)) : TqI l cs i m nw
theorem quoted_spec {w : World} {mean mg mb} {b : Heap} {s : Shared} {dp un : Nat} {fr : Option (List Env)} {gd : Option (List Code)} {R : Result → Shared → Prop} {hd : Option Value} {l : Addr} {vs : List Value} {cs : List Int}
    (S : Sx w mean mg mb b) (hH : HOk hd b) (hb : b.StaysIn s.heap)
    (hl : s.heap.IsList l vs.toArray) (hi : IntsAre vs cs) (hlen : cs.length < 10000) (hroom : dp + 10 < recursionLimit)
    (ret : NewInts s (showF cs) fun v s' => R (.ok (.ret v)) s') :
    codeAny (model PySem.Challenge.rw_on0064_01.row.prog w) ⟨hd, dp, fr, gd, un⟩ (.call (.ref 89) ⟨[.ref l], []⟩) R s := by
  (have KX9 : Fill Mine.hd.heap_39 PySem.Challenge.rw_on0064_01 := (by k_fill; exact trivial); clear KX9)
  refine' enter (binds := [(Str.ofString "codes", .ref l)]) S hb [] (by simp) ?ho ?hcd (by show dp < _; omega) ?hbind ?hloc ?_ ?hcell ?c2 ?c3 ?c4
  ((case ho => ((conv => lhs; whnf); (first | (conv in (occs := *) fd9 _ => all_goals whnf) | (conv in (occs := *) md9 _ _ => all_goals whnf)); (try dsimp only); exact rfl)); (case hcd => k_is); (case hbind => exact BindsTo.of_eq rfl); (case hloc => exact locs rfl); (case hcell => decide); (case c2 => exact rfl); (case c3 => exact rfl); (case c4 => exact rfl))
  intro g L h₁ S' hg hL F K1 env9 Q9 E9
  subst hg hL
  have X := S'.X
  have T := S'.T
  have N : News (hideAll s.heap []) s.heap.objs.size h₁ [] := News.nil
  have hB : (hideAll s.heap []).IsList l vs.toArray := isList_hide hl (by simp)
  have hvl := hi.length
  have hH' := hok_hide (W := []) hH hb (by simp)
  repeat' (first | (k_unfold; (try dsimp only)) | (k_end; kc_close) | (first | ((with_reducible show wpAny _ _ (call (Value.builtin _) _ _) _ _ _); with_reducible (k_here; (with_reducible show wpAny _ _ (call (Value.builtin _) [Value.ref _, Value.ref _]) _ _ _); k_dflt (refine' extend_mine ?k9F ?k9N ?k9b ?k9U ?k9ne ?k9z ?_; (case k9F => k_asm); (case k9N => k_asm); (case k9b => k_mem); (case k9U => k_updF); (case k9ne => first | exact Nat.succ_ne_zero _ | (simp only [List.size_toArray, Array.size_toArray]; omega)); (case k9z => first | (simp only [List.size_toArray, List.length_cons, List.length_nil, List.length_append]; omega) | omega); k_whole); walk_at "t_extend_mine")) | ((with_reducible show wpAny _ _ (binaryOp _ (Value.ref _) (Value.ref _)) _ _ _); with_reducible (k_here; (with_reducible show wpAny _ _ (binaryOp _ (Value.ref _) (Value.ref _)) _ _ _); k_dflt (first | (refine' add_mineB ?k9F ?k9N ?k9a ?k9b ?k9i ?k9j ?k9y ?k9z ?k9k ?_; (case k9F => k_asm); (case k9N => k_asm); (case k9a => kmk_list); (case k9b => kmk_list); (case k9i => l_ints); (case k9j => l_ints); (case k9y => walk_at "m_bd"); (case k9z => walk_at "m_bd"); (case k9k => rfl); k_whole) | (refine' add_mine ?k9F ?k9N ?k9a ?k9b ?k9i ?k9j ?k9z ?_; (case k9F => k_asm); (case k9N => k_asm); (case k9a => kmk_list); (case k9b => kmk_list); (case k9i => l_ints); (case k9j => l_ints); (case k9z => ((try simp only [List.length_cons, List.length_nil]); omega)); k_whole)); walk_at "t_add_mineB")) | ((with_reducible show wpAny _ _ (exec (Stmt.For _ _ _ _ _) _) _ _ _); with_reducible (k_here; (with_unfolding_all (refine' For_mine ?_ ?k9hs; (case k9hs => intro _; rfl)))))) | walk1 | (dsimp only; walk1) | (leave1; (try dsimp only)))
  rename Fr _ _ _ _ => F'
  rename News _ _ _ _ => N'
  refine Stop.go (for_listH (n := cs.length) (TqI l cs) hH' F' N' (isList_keeps hB F'.keep) (.inl (let ⟨o, e, _⟩ := hB; ⟨o, e⟩)) ?_ ?_ ?_ rfl rfl (by passes_own) (by simp [hvl]))
  · exact ⟨rfl, _, [_], _, rfl, rfl, .cons _ _ .nil⟩
  · rintro I i v m₁ nw oI h tk hi' ⟨m1, fa, accv, na, m2, rfl, ha⟩ hne F₁ N₁
    obtain ⟨t, rfl, hic⟩ := ints_at hi hi'
    have hel := esc_len (cs.take i)
    have hal := ha.length
    replace hne := neAll_of hne
    dsimp only [NeAll] at hne
    simp only [List.length_take, List.length_append, List.length_singleton] at hel hal
    have hs := esc_snoc hic
    generalize cs.getD i 0 = c at *
    dsimp only at F₁ N₁ ⊢
    have hab : accv.length ≤ 30000 := by omega
    clear hal hel
    repeat' (first | (k_unfold; (try dsimp only)) | (k_end; kc_close) | (first | ((with_reducible show wpAny _ _ (call (Value.builtin _) _ _) _ _ _); with_reducible (k_here; (with_reducible show wpAny _ _ (call (Value.builtin _) [Value.ref _, Value.ref _]) _ _ _); k_dflt (refine' extend_mine ?k9F ?k9N ?k9b ?k9U ?k9ne ?k9z ?_; (case k9F => k_asm); (case k9N => k_asm); (case k9b => k_mem); (case k9U => k_updF); (case k9ne => first | exact Nat.succ_ne_zero _ | (simp only [List.size_toArray, Array.size_toArray]; omega)); (case k9z => first | (simp only [List.size_toArray, List.length_cons, List.length_nil, List.length_append]; omega) | omega); k_whole); walk_at "t_extend_mine")) | ((with_reducible show wpAny _ _ (binaryOp _ (Value.ref _) (Value.ref _)) _ _ _); with_reducible (k_here; (with_reducible show wpAny _ _ (binaryOp _ (Value.ref _) (Value.ref _)) _ _ _); k_dflt (first | (refine' add_mineB ?k9F ?k9N ?k9a ?k9b ?k9i ?k9j ?k9y ?k9z ?k9k ?_; (case k9F => k_asm); (case k9N => k_asm); (case k9a => kmk_list); (case k9b => kmk_list); (case k9i => l_ints); (case k9j => l_ints); (case k9y => walk_at "m_bd"); (case k9z => walk_at "m_bd"); (case k9k => rfl); k_whole) | (refine' add_mine ?k9F ?k9N ?k9a ?k9b ?k9i ?k9j ?k9z ?_; (case k9F => k_asm); (case k9N => k_asm); (case k9a => kmk_list); (case k9b => kmk_list); (case k9i => l_ints); (case k9j => l_ints); (case k9z => ((try simp only [List.length_cons, List.length_nil]); omega)); k_whole)); walk_at "t_add_mineB")) | ((with_reducible show wpAny _ _ (exec (Stmt.For _ _ _ _ _) _) _ _ _); with_reducible (k_here; (with_unfolding_all (refine' For_mine ?_ ?k9hs; (case k9hs => intro _; rfl)))))) | walk1 | (dsimp only; walk1) | (leave1; (try dsimp only)))
    all_goals (
      rename Fr _ _ _ _ => F2
      rename News _ _ _ _ => N2)
    · refine ForStep.mk F2 (News.sub N2 (by k_allIn)) ?_ ⟨m1, fa, accv ++ [_, _], _, m2, rfl, ?_⟩
      · exact neAll_to hne
      · rw [hs, esc1_q (.inl (by assumption))]; exact ints_app (cs := [34] ++ (cs.take i).flatMap esc1) ha (.cons _ _ (.cons _ _ .nil))
    · refine ForStep.mk F2 (News.sub N2 (by k_allIn)) ?_ ⟨m1, fa, accv ++ [_, _], _, m2, rfl, ?_⟩
      · exact neAll_to hne
      · rw [hs, esc1_q (.inr (by assumption))]; exact ints_app (cs := [34] ++ (cs.take i).flatMap esc1) ha (.cons _ _ (.cons _ _ .nil))
    · refine ForStep.mk F2 (News.sub N2 (by k_allIn)) ?_ ⟨m1, fa, accv ++ [_, _], _, m2, rfl, ?_⟩
      · exact neAll_to hne
      · rw [hs, esc1_n (by assumption)]; exact ints_app (cs := [34] ++ (cs.take i).flatMap esc1) ha (.cons _ _ (.cons _ _ .nil))
    · refine ForStep.mk F2 (News.sub (snocNews2 N2 (by k_mem)) (by k_allIn)) ?_ ⟨m1, fa, accv ++ [_], _, m2, rfl, ?_⟩
      · exact neAll_to hne
      · rw [hs, esc1_o (by assumption) (by assumption) (by assumption)]; exact ints_app (cs := [34] ++ (cs.take i).flatMap esc1) ha (.cons _ _ .nil)
  · rintro h tk m₁ nw F₁ N₁ ⟨m1, fa, accv, na, m2, rfl, ha⟩
    rw [List.take_length] at ha
    have hal := ha.length
    have hel := esc_len cs
    simp only [List.length_append, List.length_singleton] at hal
    have hab : accv.length ≤ 30000 := by omega
    clear hal hel
    dsimp only at F₁ N₁ ⊢
    repeat' (first | (k_unfold; (try dsimp only)) | (k_end; kc_close) | (first | ((with_reducible show wpAny _ _ (call (Value.builtin _) _ _) _ _ _); with_reducible (k_here; (with_reducible show wpAny _ _ (call (Value.builtin _) [Value.ref _, Value.ref _]) _ _ _); k_dflt (refine' extend_mine ?k9F ?k9N ?k9b ?k9U ?k9ne ?k9z ?_; (case k9F => k_asm); (case k9N => k_asm); (case k9b => k_mem); (case k9U => k_updF); (case k9ne => first | exact Nat.succ_ne_zero _ | (simp only [List.size_toArray, Array.size_toArray]; omega)); (case k9z => first | (simp only [List.size_toArray, List.length_cons, List.length_nil, List.length_append]; omega) | omega); k_whole); walk_at "t_extend_mine")) | ((with_reducible show wpAny _ _ (binaryOp _ (Value.ref _) (Value.ref _)) _ _ _); with_reducible (k_here; (with_reducible show wpAny _ _ (binaryOp _ (Value.ref _) (Value.ref _)) _ _ _); k_dflt (first | (refine' add_mineB ?k9F ?k9N ?k9a ?k9b ?k9i ?k9j ?k9y ?k9z ?k9k ?_; (case k9F => k_asm); (case k9N => k_asm); (case k9a => kmk_list); (case k9b => kmk_list); (case k9i => l_ints); (case k9j => l_ints); (case k9y => walk_at "m_bd"); (case k9z => walk_at "m_bd"); (case k9k => rfl); k_whole) | (refine' add_mine ?k9F ?k9N ?k9a ?k9b ?k9i ?k9j ?k9z ?_; (case k9F => k_asm); (case k9N => k_asm); (case k9a => kmk_list); (case k9b => kmk_list); (case k9i => l_ints); (case k9j => l_ints); (case k9z => ((try simp only [List.length_cons, List.length_nil]); omega)); k_whole)); walk_at "t_add_mineB")) | ((with_reducible show wpAny _ _ (exec (Stmt.For _ _ _ _ _) _) _ _ _); with_reducible (k_here; (with_unfolding_all (refine' For_mine ?_ ?k9hs; (case k9hs => intro _; rfl)))))) | walk1 | (dsimp only; walk1) | (leave1; (try dsimp only)))
    rename Fr _ _ _ _ => F2
    rename News _ _ _ _ => N2
    exact ret.of F2 (by simp) N2 (.head _) (by simp) (by assumption)
section
variable {w : World} {mean : ExcName → Option Value} {mg mb : Str → Option Value} {g : Heap} {s : Shared} {A : Around} {dp un tk : Nat} {fr : Option (List Env)} {gd : Option (List Code)} {m : Str → Option Value} {hd : Option Value} {L l : Addr} {vs : List Value} {cs : List Int}
  {news : List (Addr × Obj)} {E : Value → Shared → Prop} {Q : Value → Shared → Prop}
theorem quoted_call (S : Sx w mean mg mb g) (hH : HOk hd g) (F : Fr g L s.heap m) (N : News g L s.heap news) (hl : s.heap.IsList l vs.toArray) (hi : IntsAre vs cs) (hlen : cs.length < 10000) (hA : A = ⟨hd, dp, fr, gd, un⟩) (hroom : dp + 10 < recursionLimit)
    (k : ∀ D vs' n' h' tk, AllNe D news → Fr g L h' m → News g L h' ((D, listOf (List.toArray vs') n') :: news) → IntsAre vs' (showF cs) → vs'.length ≤ 20002 → Q (.ref D) { s with heap := h', toks := tk }) :
    wpAny (model PySem.Challenge.rw_on0064_01.row.prog w) A (call (.ref 89) [.ref l]) Q E s := by
  subst hA
  refine wpAny_call (quoted_spec S hH F.keep hl hi hlen hroom (newInts_call F N fun D vs' n' h' tk a b c d e => k D vs' n' h' tk a b c d ?_))
  have := esc_len cs
  simp only [showF, List.length_append, List.length_singleton] at e
  omega
end
end

section
inductive TsI (l : Addr) (cs : List Int) (i : Nat) (m : Str → Option Value) (nw : List (Addr × Obj)) : Prop
  | mk (e0 : m (Str.ofString "_law_codes") = some (.ref l)) (fa : Addr) (accv : List Value) (na : Nat) (e1 : m (Str.ofString "_law_found") = some (.ref fa)) (e2 : nw = [(fa, listOf (List.toArray accv) na)]) (e3 : IntsAre accv ((cs.take i).flatMap esc1)) : TsI l cs i m nw
theorem shown_spec {w : World} {mean mg mb} {b : Heap} {s : Shared} {dp un : Nat} {fr : Option (List Env)} {gd : Option (List Code)} {R : Result → Shared → Prop} {l : Addr} {vs : List Value} {cs : List Int}
    (S : Sx w mean mg mb b) (hb : b.StaysIn s.heap)
    (hl : s.heap.IsList l vs.toArray) (hi : IntsAre vs cs) (hlen : cs.length < 10000) (hroom : dp + 10 < recursionLimit)
    (ret : NewInts s (showF cs) fun v s' => R (.ok (.ret v)) s') :
    codeAny (model PySem.Challenge.rw_on0064_01.row.prog w) ⟨none, dp, fr, gd, un⟩ (.call (.ref 214) ⟨[.ref l], []⟩) R s := by
  (have KX9 : Fill Mine.hd.heap_39 PySem.Challenge.rw_on0064_01 := (by k_fill; exact trivial); clear KX9)
  refine' enter (binds := [(Str.ofString "_law_codes", .ref l)]) S hb [] (by simp) ?ho ?hcd (by show dp < _; omega) ?hbind ?hloc ?_ ?hcell ?c2 ?c3 ?c4
  ((case ho => ((conv => lhs; whnf); (first | (conv in (occs := *) fd9 _ => all_goals whnf) | (conv in (occs := *) md9 _ _ => all_goals whnf)); (try dsimp only); exact rfl)); (case hcd => k_is); (case hbind => exact BindsTo.of_eq rfl); (case hloc => exact locs rfl); (case hcell => decide); (case c2 => exact rfl); (case c3 => exact rfl); (case c4 => exact rfl))
  intro g L h₁ S' hg hL F K1 env9 Q9 E9
  subst hg hL
  have X := S'.X
  have T := S'.T
  have N : News (hideAll s.heap []) s.heap.objs.size h₁ [] := News.nil
  have hB : (hideAll s.heap []).IsList l vs.toArray := isList_hide hl (by simp)
  have hvl := hi.length
  repeat' (first | (k_unfold; (try dsimp only)) | (k_end; kc_close) | (first | ((with_reducible show wpAny _ _ (binaryOp _ (Value.ref _) (Value.ref _)) _ _ _); with_reducible (k_here; (with_reducible show wpAny _ _ (binaryOp _ (Value.ref _) (Value.ref _)) _ _ _); k_dflt (first | (refine' add_mineB ?k9F ?k9N ?k9a ?k9b ?k9i ?k9j ?k9y ?k9z ?k9k ?_; (case k9F => k_asm); (case k9N => k_asm); (case k9a => kmk_list); (case k9b => kmk_list); (case k9i => l_ints); (case k9j => l_ints); (case k9y => walk_at "m_bd"); (case k9z => walk_at "m_bd"); (case k9k => rfl); k_whole) | (refine' add_mine ?k9F ?k9N ?k9a ?k9b ?k9i ?k9j ?k9z ?_; (case k9F => k_asm); (case k9N => k_asm); (case k9a => kmk_list); (case k9b => kmk_list); (case k9i => l_ints); (case k9j => l_ints); (case k9z => ((try simp only [List.length_cons, List.length_nil]); omega)); k_whole)); walk_at "t_add_mineB")) | ((with_reducible show wpAny _ _ (exec (Stmt.For _ _ _ _ _) _) _ _ _); with_reducible (k_here; (with_unfolding_all (refine' For_mine ?_ ?k9hs; (case k9hs => intro _; rfl)))))) | walk1 | (dsimp only; walk1) | (leave1; (try dsimp only)))
  rename Fr _ _ _ _ => F'
  rename News _ _ _ _ => N'
  refine Stop.go (for_list (n := cs.length) (TsI l cs) rfl F' N' (isList_keeps hB F'.keep) (.inl (let ⟨o, e, _⟩ := hB; ⟨o, e⟩)) ?_ ?_ ?_ rfl rfl (by passes_own) (by simp [hvl]))
  · exact ⟨rfl, _, [], _, rfl, rfl, .nil⟩
  · rintro I i v m₁ nw oI h tk hi' ⟨m1, fa, accv, na, m2, rfl, ha⟩ hne F₁ N₁
    obtain ⟨t, rfl, hic⟩ := ints_at hi hi'
    have hel := esc_len (cs.take i)
    have hal := ha.length
    replace hne := neAll_of hne
    dsimp only [NeAll] at hne
    simp only [List.length_take, List.length_append, List.length_singleton] at hel hal
    have hs := esc_snoc hic
    generalize cs.getD i 0 = c at *
    dsimp only at F₁ N₁ ⊢
    have hab : accv.length ≤ 30000 := by omega
    clear hal hel
    by_cases c1 : c = 34
    · subst c1
      repeat' (first | (k_unfold; (try dsimp only)) | (k_end; kc_close) | (first | ((with_reducible show wpAny _ _ (binaryOp _ (Value.ref _) (Value.ref _)) _ _ _); with_reducible (k_here; (with_reducible show wpAny _ _ (binaryOp _ (Value.ref _) (Value.ref _)) _ _ _); k_dflt (first | (refine' add_mineB ?k9F ?k9N ?k9a ?k9b ?k9i ?k9j ?k9y ?k9z ?k9k ?_; (case k9F => k_asm); (case k9N => k_asm); (case k9a => kmk_list); (case k9b => kmk_list); (case k9i => l_ints); (case k9j => l_ints); (case k9y => walk_at "m_bd"); (case k9z => walk_at "m_bd"); (case k9k => rfl); k_whole) | (refine' add_mine ?k9F ?k9N ?k9a ?k9b ?k9i ?k9j ?k9z ?_; (case k9F => k_asm); (case k9N => k_asm); (case k9a => kmk_list); (case k9b => kmk_list); (case k9i => l_ints); (case k9j => l_ints); (case k9z => ((try simp only [List.length_cons, List.length_nil]); omega)); k_whole)); walk_at "t_add_mineB")) | ((with_reducible show wpAny _ _ (exec (Stmt.For _ _ _ _ _) _) _ _ _); with_reducible (k_here; (with_unfolding_all (refine' For_mine ?_ ?k9hs; (case k9hs => intro _; rfl)))))) | walk1 | (dsimp only; walk1) | (leave1; (try dsimp only)))
      rename Fr _ _ _ _ => F2
      rename News _ _ _ _ => N2
      refine ForStep.mk F2 (News.sub N2 (by k_allIn)) ?_ ⟨by first | exact rfl | exact m1, _, _, _, rfl, rfl, by rw [hs, esc1_q (.inl rfl)]; assumption⟩
      refine neAll_to ?_; dsimp only [NeAll]; first | (with_reducible walk_at "m_ne") | omega
    by_cases c2 : c = 92
    · subst c2
      repeat' (first | (k_unfold; (try dsimp only)) | (k_end; kc_close) | (first | ((with_reducible show wpAny _ _ (binaryOp _ (Value.ref _) (Value.ref _)) _ _ _); with_reducible (k_here; (with_reducible show wpAny _ _ (binaryOp _ (Value.ref _) (Value.ref _)) _ _ _); k_dflt (first | (refine' add_mineB ?k9F ?k9N ?k9a ?k9b ?k9i ?k9j ?k9y ?k9z ?k9k ?_; (case k9F => k_asm); (case k9N => k_asm); (case k9a => kmk_list); (case k9b => kmk_list); (case k9i => l_ints); (case k9j => l_ints); (case k9y => walk_at "m_bd"); (case k9z => walk_at "m_bd"); (case k9k => rfl); k_whole) | (refine' add_mine ?k9F ?k9N ?k9a ?k9b ?k9i ?k9j ?k9z ?_; (case k9F => k_asm); (case k9N => k_asm); (case k9a => kmk_list); (case k9b => kmk_list); (case k9i => l_ints); (case k9j => l_ints); (case k9z => ((try simp only [List.length_cons, List.length_nil]); omega)); k_whole)); walk_at "t_add_mineB")) | ((with_reducible show wpAny _ _ (exec (Stmt.For _ _ _ _ _) _) _ _ _); with_reducible (k_here; (with_unfolding_all (refine' For_mine ?_ ?k9hs; (case k9hs => intro _; rfl)))))) | walk1 | (dsimp only; walk1) | (leave1; (try dsimp only)))
      rename Fr _ _ _ _ => F2
      rename News _ _ _ _ => N2
      refine ForStep.mk F2 (News.sub N2 (by k_allIn)) ?_ ⟨by first | exact rfl | exact m1, _, _, _, rfl, rfl, by rw [hs, esc1_q (.inr rfl)]; assumption⟩
      refine neAll_to ?_; dsimp only [NeAll]; first | (with_reducible walk_at "m_ne") | omega
    by_cases c3 : c = 10
    · subst c3
      repeat' (first | (k_unfold; (try dsimp only)) | (k_end; kc_close) | (first | ((with_reducible show wpAny _ _ (binaryOp _ (Value.ref _) (Value.ref _)) _ _ _); with_reducible (k_here; (with_reducible show wpAny _ _ (binaryOp _ (Value.ref _) (Value.ref _)) _ _ _); k_dflt (first | (refine' add_mineB ?k9F ?k9N ?k9a ?k9b ?k9i ?k9j ?k9y ?k9z ?k9k ?_; (case k9F => k_asm); (case k9N => k_asm); (case k9a => kmk_list); (case k9b => kmk_list); (case k9i => l_ints); (case k9j => l_ints); (case k9y => walk_at "m_bd"); (case k9z => walk_at "m_bd"); (case k9k => rfl); k_whole) | (refine' add_mine ?k9F ?k9N ?k9a ?k9b ?k9i ?k9j ?k9z ?_; (case k9F => k_asm); (case k9N => k_asm); (case k9a => kmk_list); (case k9b => kmk_list); (case k9i => l_ints); (case k9j => l_ints); (case k9z => ((try simp only [List.length_cons, List.length_nil]); omega)); k_whole)); walk_at "t_add_mineB")) | ((with_reducible show wpAny _ _ (exec (Stmt.For _ _ _ _ _) _) _ _ _); with_reducible (k_here; (with_unfolding_all (refine' For_mine ?_ ?k9hs; (case k9hs => intro _; rfl)))))) | walk1 | (dsimp only; walk1) | (leave1; (try dsimp only)))
      rename Fr _ _ _ _ => F2
      rename News _ _ _ _ => N2
      refine ForStep.mk F2 (News.sub N2 (by k_allIn)) ?_ ⟨by first | exact rfl | exact m1, _, _, _, rfl, rfl, by rw [hs, esc1_n rfl]; assumption⟩
      refine neAll_to ?_; dsimp only [NeAll]; first | (with_reducible walk_at "m_ne") | omega
    · repeat' (first | (k_unfold; (try dsimp only)) | (k_end; kc_close) | (first | ((with_reducible show wpAny _ _ (binaryOp _ (Value.ref _) (Value.ref _)) _ _ _); with_reducible (k_here; (with_reducible show wpAny _ _ (binaryOp _ (Value.ref _) (Value.ref _)) _ _ _); k_dflt (first | (refine' add_mineB ?k9F ?k9N ?k9a ?k9b ?k9i ?k9j ?k9y ?k9z ?k9k ?_; (case k9F => k_asm); (case k9N => k_asm); (case k9a => kmk_list); (case k9b => kmk_list); (case k9i => l_ints); (case k9j => l_ints); (case k9y => walk_at "m_bd"); (case k9z => walk_at "m_bd"); (case k9k => rfl); k_whole) | (refine' add_mine ?k9F ?k9N ?k9a ?k9b ?k9i ?k9j ?k9z ?_; (case k9F => k_asm); (case k9N => k_asm); (case k9a => kmk_list); (case k9b => kmk_list); (case k9i => l_ints); (case k9j => l_ints); (case k9z => ((try simp only [List.length_cons, List.length_nil]); omega)); k_whole)); walk_at "t_add_mineB")) | ((with_reducible show wpAny _ _ (exec (Stmt.For _ _ _ _ _) _) _ _ _); with_reducible (k_here; (with_unfolding_all (refine' For_mine ?_ ?k9hs; (case k9hs => intro _; rfl)))))) | walk1 | (dsimp only; walk1) | (leave1; (try dsimp only)))
      refine kdg_get2 (by assumption) (by k_mem) (by assumption) (by assumption) (intKind_is _ _ _ _) none ?_ ?_
      · unfold valueAt
        simp [intKeyPairs]
        exact ⟨fun q => c1 q.symm, fun q => c2 q.symm, fun q => c3 q.symm⟩
      dsimp only [Option.getD_none]
      repeat' (first | (k_unfold; (try dsimp only)) | (k_end; kc_close) | (first | ((with_reducible show wpAny _ _ (binaryOp _ (Value.ref _) (Value.ref _)) _ _ _); with_reducible (k_here; (with_reducible show wpAny _ _ (binaryOp _ (Value.ref _) (Value.ref _)) _ _ _); k_dflt (first | (refine' add_mineB ?k9F ?k9N ?k9a ?k9b ?k9i ?k9j ?k9y ?k9z ?k9k ?_; (case k9F => k_asm); (case k9N => k_asm); (case k9a => kmk_list); (case k9b => kmk_list); (case k9i => l_ints); (case k9j => l_ints); (case k9y => walk_at "m_bd"); (case k9z => walk_at "m_bd"); (case k9k => rfl); k_whole) | (refine' add_mine ?k9F ?k9N ?k9a ?k9b ?k9i ?k9j ?k9z ?_; (case k9F => k_asm); (case k9N => k_asm); (case k9a => kmk_list); (case k9b => kmk_list); (case k9i => l_ints); (case k9j => l_ints); (case k9z => ((try simp only [List.length_cons, List.length_nil]); omega)); k_whole)); walk_at "t_add_mineB")) | ((with_reducible show wpAny _ _ (exec (Stmt.For _ _ _ _ _) _) _ _ _); with_reducible (k_here; (with_unfolding_all (refine' For_mine ?_ ?k9hs; (case k9hs => intro _; rfl)))))) | walk1 | (dsimp only; walk1) | (leave1; (try dsimp only)))
      rename Fr _ _ _ _ => F2
      rename News _ _ _ _ => N2
      refine ForStep.mk F2 (News.sub N2 (by k_allIn)) ?_ ⟨by first | exact rfl | exact m1, _, _, _, rfl, rfl, by rw [hs, esc1_o c1 c2 c3]; assumption⟩
      refine neAll_to ?_; dsimp only [NeAll]; first | (with_reducible walk_at "m_ne") | omega
  · rintro h tk m₁ nw F₁ N₁ ⟨m1, fa, accv, na, m2, rfl, ha⟩
    rw [List.take_length] at ha
    have hal := ha.length
    have hel := esc_len cs
    have hab : accv.length ≤ 30000 := by omega
    clear hal hel
    dsimp only at F₁ N₁ ⊢
    repeat' (first | (k_unfold; (try dsimp only)) | (k_end; kc_close) | (first | ((with_reducible show wpAny _ _ (binaryOp _ (Value.ref _) (Value.ref _)) _ _ _); with_reducible (k_here; (with_reducible show wpAny _ _ (binaryOp _ (Value.ref _) (Value.ref _)) _ _ _); k_dflt (first | (refine' add_mineB ?k9F ?k9N ?k9a ?k9b ?k9i ?k9j ?k9y ?k9z ?k9k ?_; (case k9F => k_asm); (case k9N => k_asm); (case k9a => kmk_list); (case k9b => kmk_list); (case k9i => l_ints); (case k9j => l_ints); (case k9y => walk_at "m_bd"); (case k9z => walk_at "m_bd"); (case k9k => rfl); k_whole) | (refine' add_mine ?k9F ?k9N ?k9a ?k9b ?k9i ?k9j ?k9z ?_; (case k9F => k_asm); (case k9N => k_asm); (case k9a => kmk_list); (case k9b => kmk_list); (case k9i => l_ints); (case k9j => l_ints); (case k9z => ((try simp only [List.length_cons, List.length_nil]); omega)); k_whole)); walk_at "t_add_mineB")) | ((with_reducible show wpAny _ _ (exec (Stmt.For _ _ _ _ _) _) _ _ _); with_reducible (k_here; (with_unfolding_all (refine' For_mine ?_ ?k9hs; (case k9hs => intro _; rfl)))))) | walk1 | (dsimp only; walk1) | (leave1; (try dsimp only)))
    rename Fr _ _ _ _ => F2
    rename News _ _ _ _ => N2
    exact ret.of F2 (by simp) N2 (.head _) (by simp) (by assumption)
section
variable {w : World} {mean : ExcName → Option Value} {mg mb : Str → Option Value} {g : Heap} {s : Shared} {A : Around} {dp un tk : Nat} {fr : Option (List Env)} {gd : Option (List Code)} {m : Str → Option Value} {L l : Addr} {vs : List Value} {cs : List Int}
  {news : List (Addr × Obj)} {E : Value → Shared → Prop} {Q : Value → Shared → Prop}
theorem shown_call (S : Sx w mean mg mb g) (F : Fr g L s.heap m) (N : News g L s.heap news) (hl : s.heap.IsList l vs.toArray) (hi : IntsAre vs cs) (hlen : cs.length < 10000) (hA : A = ⟨none, dp, fr, gd, un⟩) (hroom : dp + 10 < recursionLimit)
    (k : ∀ D vs' n' h' tk, AllNe D news → Fr g L h' m → News g L h' ((D, listOf (List.toArray vs') n') :: news) → IntsAre vs' (showF cs) → vs'.length ≤ 20002 → Q (.ref D) { s with heap := h', toks := tk }) :
    wpAny (model PySem.Challenge.rw_on0064_01.row.prog w) A (call (.ref 214) [.ref l]) Q E s := by
  subst hA
  refine wpAny_call (shown_spec S F.keep hl hi hlen hroom (newInts_call F N fun D vs' n' h' tk a b c d e => k D vs' n' h' tk a b c d ?_))
  have := esc_len cs
  simp only [showF, List.length_append, List.length_singleton] at e
  omega
end
end

local macro_rules | `(tactic| walk_at "t_shown_call_214") => `(tactic| (intro D vs' n' h' tk hne F' N' hI hL; (try k_sweep); (try (first | (replace hne := neAll_of hne; dsimp only [NeAll] at hne; fail_if_success (unfold NeAll at hne)) | simp only [AllNe, and_true] at hne))))
section
noncomputable def rowF (w : List Int) (u : Int) (t : List Int) (e : Bool) : List Int := showF w ++ [32] ++ digF u ++ [32] ++ showF t ++ (if e = true then [32, 101, 120, 97, 99, 116] else []) ++ [10]
theorem row_spec {w : World} {mean mg mb} {b : Heap} {s : Shared} {dp un : Nat} {fr : Option (List Env)} {gd : Option (List Code)} {R : Result → Shared → Prop} {te wa ta : Addr} {u : Int} {e : Bool} {tu : Tok} {nt : Nat} {vw vt : List Value} {cw ct : List Int}
    (S : Sx w mean mg mb b) (hb : b.StaysIn s.heap) (ht : s.heap.get? te = some (tupOf [.ref wa, .int u tu, .ref ta, .bool e] nt)) (hbt : b.get? te = none)
    (hlw : s.heap.IsList wa vw.toArray) (hiw : IntsAre vw cw) (hlenw : cw.length < 5000)
    (hlt : s.heap.IsList ta vt.toArray) (hit : IntsAre vt ct) (hlent : ct.length < 5000) (hu0 : 0 ≤ u) (hu1 : u.natAbs.log2 < 1920) (hroom : dp + 20 < recursionLimit)
    (ret : NewInts s (rowF cw u ct e) fun v s' => R (.ok (.ret v)) s') :
    codeAny (model PySem.Challenge.rw_on0064_01.row.prog w) ⟨none, dp, fr, gd, un⟩ (.call (.ref 219) ⟨[.ref te], []⟩) R s := by
  (have KX9 : Fill Mine.hd.heap_39 PySem.Challenge.rw_on0064_01 := (by k_fill; exact trivial); clear KX9)
  refine' enter (binds := [(Str.ofString "_law_entry", .ref te)]) S hb [te] (by simp [hbt]) ?ho ?hcd (by show dp < _; omega) ?hbind ?hloc ?_ ?hcell ?c2 ?c3 ?c4
  ((case ho => ((conv => lhs; whnf); (first | (conv in (occs := *) fd9 _ => all_goals whnf) | (conv in (occs := *) md9 _ _ => all_goals whnf)); (try dsimp only); exact rfl)); (case hcd => k_is); (case hbind => exact BindsTo.of_eq rfl); (case hloc => exact locs rfl); (case hcell => decide); (case c2 => exact rfl); (case c3 => exact rfl); (case c4 => exact rfl))
  intro g L h₁ S' hg hL F K1 env9 Q9 E9
  subst hg hL
  have X := S'.X
  have T := S'.T
  have N : News (hideAll s.heap [te]) s.heap.objs.size h₁ [(te, tupOf [.ref wa, .int u tu, .ref ta, .bool e] nt)] := (news1 K1 ht mw0 News.nil)
  have dw : wa ≠ te := by rintro rfl; obtain ⟨o, e1, e2, _⟩ := hlw; rw [ht] at e1; cases e1; simp at e2
  have dt : ta ≠ te := by rintro rfl; obtain ⟨o, e1, e2, _⟩ := hlt; rw [ht] at e1; cases e1; simp at e2
  have hBw : (hideAll s.heap [te]).IsList wa vw.toArray := isList_hide hlw (by simpa using dw)
  have hBt : (hideAll s.heap [te]).IsList ta vt.toArray := isList_hide hlt (by simpa using dt)
  have hvw := hiw.length
  have hvt := hit.length
  repeat' (first | (k_unfold; (try dsimp only)) | (k_end; kc_close) | (first | ((with_reducible show wpAny _ _ (eval (Expr.IfExp _ _ _ _) _) _ _ _); with_reducible (with_reducible refine Stop.go ?_)) | ((with_reducible show wpAny _ _ (eval (Expr.ListComp _ _ _ _) _) _ _ _); with_reducible (with_reducible refine Stop.go ?_)) | ((with_reducible show wpAny _ _ (call (Value.ref _) _ _) _ _ _); k_here; (with_unfolding_all show wpAny _ _ (call (Value.ref 214) [Value.ref _]) _ _ _); (refine' shown_call ?k9S ?k9F ?k9N ?k9hl ?k9hi ?k9hlen ?k9hA ?k9hroom ?_; (case k9F => k_asm); (case k9N => k_asm); (case k9S => assumption); (case k9hl => is_list); (case k9hi => l_ints); (case k9hlen => walk_at "m_rm"); (case k9hA => rfl); (case k9hroom => walk_at "m_rm"); k_whole); walk_at "t_shown_call_214") | ((with_reducible show wpAny _ _ (binaryOp _ (Value.ref _) (Value.ref _)) _ _ _); with_reducible (k_here; (with_reducible show wpAny _ _ (binaryOp _ (Value.ref _) (Value.ref _)) _ _ _); k_dflt (first | (refine' add_mineB ?k9F ?k9N ?k9a ?k9b ?k9i ?k9j ?k9y ?k9z ?k9k ?_; (case k9F => k_asm); (case k9N => k_asm); (case k9a => kmk_list); (case k9b => kmk_list); (case k9i => l_ints); (case k9j => l_ints); (case k9y => walk_at "m_bd"); (case k9z => walk_at "m_bd"); (case k9k => rfl); k_whole) | (refine' add_mine ?k9F ?k9N ?k9a ?k9b ?k9i ?k9j ?k9z ?_; (case k9F => k_asm); (case k9N => k_asm); (case k9a => kmk_list); (case k9b => kmk_list); (case k9i => l_ints); (case k9j => l_ints); (case k9z => ((try simp only [List.length_cons, List.length_nil]); omega)); k_whole)); walk_at "t_add_mineB"))) | walk1 | (dsimp only; walk1) | (leave1; (try dsimp only)))
  rename Fr _ _ _ _ => F0
  rename News _ _ _ _ => N0
  refine Stop.go (join_list (fun vz => IntsAre vz (if e = true then [32, 101, 120, 97, 99, 116] else [])) F0 N0 ?_ ?_)
  · dsimp only
    refine wpAny_IfExp ?_
    repeat' (first | (k_unfold; (try dsimp only)) | (k_end; kc_close) | (first | ((with_reducible show wpAny _ _ (eval (Expr.IfExp _ _ _ _) _) _ _ _); with_reducible (with_reducible refine Stop.go ?_)) | ((with_reducible show wpAny _ _ (eval (Expr.ListComp _ _ _ _) _) _ _ _); with_reducible (with_reducible refine Stop.go ?_)) | ((with_reducible show wpAny _ _ (call (Value.ref _) _ _) _ _ _); k_here; (with_unfolding_all show wpAny _ _ (call (Value.ref 214) [Value.ref _]) _ _ _); (refine' shown_call ?k9S ?k9F ?k9N ?k9hl ?k9hi ?k9hlen ?k9hA ?k9hroom ?_; (case k9F => k_asm); (case k9N => k_asm); (case k9S => assumption); (case k9hl => is_list); (case k9hi => l_ints); (case k9hlen => walk_at "m_rm"); (case k9hA => rfl); (case k9hroom => walk_at "m_rm"); k_whole); walk_at "t_shown_call_214") | ((with_reducible show wpAny _ _ (binaryOp _ (Value.ref _) (Value.ref _)) _ _ _); with_reducible (k_here; (with_reducible show wpAny _ _ (binaryOp _ (Value.ref _) (Value.ref _)) _ _ _); k_dflt (first | (refine' add_mineB ?k9F ?k9N ?k9a ?k9b ?k9i ?k9j ?k9y ?k9z ?k9k ?_; (case k9F => k_asm); (case k9N => k_asm); (case k9a => kmk_list); (case k9b => kmk_list); (case k9i => l_ints); (case k9j => l_ints); (case k9y => walk_at "m_bd"); (case k9z => walk_at "m_bd"); (case k9k => rfl); k_whole) | (refine' add_mine ?k9F ?k9N ?k9a ?k9b ?k9i ?k9j ?k9z ?_; (case k9F => k_asm); (case k9N => k_asm); (case k9a => kmk_list); (case k9b => kmk_list); (case k9i => l_ints); (case k9j => l_ints); (case k9z => ((try simp only [List.length_cons, List.length_nil]); omega)); k_whole)); walk_at "t_add_mineB"))) | walk1 | (dsimp only; walk1) | (leave1; (try dsimp only)))
    · refine Stop.go (comp_rule (by assumption) rfl (by decide) rfl (by decide) rfl ?_ (fun _ => rfl))
      repeat' (first | (k_unfold; (try dsimp only)) | (k_end; kc_close) | (first | ((with_reducible show wpAny _ _ (eval (Expr.IfExp _ _ _ _) _) _ _ _); with_reducible (with_reducible refine Stop.go ?_)) | ((with_reducible show wpAny _ _ (eval (Expr.ListComp _ _ _ _) _) _ _ _); with_reducible (with_reducible refine Stop.go ?_)) | ((with_reducible show wpAny _ _ (call (Value.ref _) _ _) _ _ _); k_here; (with_unfolding_all show wpAny _ _ (call (Value.ref 214) [Value.ref _]) _ _ _); (refine' shown_call ?k9S ?k9F ?k9N ?k9hl ?k9hi ?k9hlen ?k9hA ?k9hroom ?_; (case k9F => k_asm); (case k9N => k_asm); (case k9S => assumption); (case k9hl => is_list); (case k9hi => l_ints); (case k9hlen => walk_at "m_rm"); (case k9hA => rfl); (case k9hroom => walk_at "m_rm"); k_whole); walk_at "t_shown_call_214") | ((with_reducible show wpAny _ _ (binaryOp _ (Value.ref _) (Value.ref _)) _ _ _); with_reducible (k_here; (with_reducible show wpAny _ _ (binaryOp _ (Value.ref _) (Value.ref _)) _ _ _); k_dflt (first | (refine' add_mineB ?k9F ?k9N ?k9a ?k9b ?k9i ?k9j ?k9y ?k9z ?k9k ?_; (case k9F => k_asm); (case k9N => k_asm); (case k9a => kmk_list); (case k9b => kmk_list); (case k9i => l_ints); (case k9j => l_ints); (case k9y => walk_at "m_bd"); (case k9z => walk_at "m_bd"); (case k9k => rfl); k_whole) | (refine' add_mine ?k9F ?k9N ?k9a ?k9b ?k9i ?k9j ?k9z ?_; (case k9F => k_asm); (case k9N => k_asm); (case k9a => kmk_list); (case k9b => kmk_list); (case k9i => l_ints); (case k9j => l_ints); (case k9z => ((try simp only [List.length_cons, List.length_nil]); omega)); k_whole)); walk_at "t_add_mineB"))) | walk1 | (dsimp only; walk1) | (leave1; (try dsimp only)))
      walk_at "m_ord"
      case hsz => decide
      rename IntsAre _ (codesOf _) => hex
      rw [exact_codes] at hex
      rename Fr _ _ _ _ => F1
      rename News _ _ _ _ => N1
      rename (_ ≠ _) => off
      rename (e = true) => he
      (try dsimp only)
      exact Stop.go ⟨_, _, _, _, _, rfl, rfl, ⟨off, trivial⟩, F1, N1, by rw [if_pos he]; exact hex⟩
    · rename Fr _ _ _ _ => F1
      rename News _ _ _ _ => N1
      rename (_ < _) => ll
      rename (e = false) => he
      (try dsimp only)
      exact Stop.go ⟨_, [], _, _, _, rfl, rfl, ⟨Nat.ne_of_lt ll, trivial⟩, F1, N1, by rw [if_neg (by rw [he]; decide)]; exact .nil⟩
  · intro D vz nz h7 tk7 hnz F1 N1 Pz
    clear F0 N0
    have hvz : vz.length ≤ 6 := by
      rw [Pz.length]; split <;> decide
    (try dsimp only)
    repeat' (first | (k_unfold; (try dsimp only)) | (k_end; kc_close) | (first | ((with_reducible show wpAny _ _ (eval (Expr.IfExp _ _ _ _) _) _ _ _); with_reducible (with_reducible refine Stop.go ?_)) | ((with_reducible show wpAny _ _ (eval (Expr.ListComp _ _ _ _) _) _ _ _); with_reducible (with_reducible refine Stop.go ?_)) | ((with_reducible show wpAny _ _ (call (Value.ref _) _ _) _ _ _); k_here; (with_unfolding_all show wpAny _ _ (call (Value.ref 214) [Value.ref _]) _ _ _); (refine' shown_call ?k9S ?k9F ?k9N ?k9hl ?k9hi ?k9hlen ?k9hA ?k9hroom ?_; (case k9F => k_asm); (case k9N => k_asm); (case k9S => assumption); (case k9hl => is_list); (case k9hi => l_ints); (case k9hlen => walk_at "m_rm"); (case k9hA => rfl); (case k9hroom => walk_at "m_rm"); k_whole); walk_at "t_shown_call_214") | ((with_reducible show wpAny _ _ (binaryOp _ (Value.ref _) (Value.ref _)) _ _ _); with_reducible (k_here; (with_reducible show wpAny _ _ (binaryOp _ (Value.ref _) (Value.ref _)) _ _ _); k_dflt (first | (refine' add_mineB ?k9F ?k9N ?k9a ?k9b ?k9i ?k9j ?k9y ?k9z ?k9k ?_; (case k9F => k_asm); (case k9N => k_asm); (case k9a => kmk_list); (case k9b => kmk_list); (case k9i => l_ints); (case k9j => l_ints); (case k9y => walk_at "m_bd"); (case k9z => walk_at "m_bd"); (case k9k => rfl); k_whole) | (refine' add_mine ?k9F ?k9N ?k9a ?k9b ?k9i ?k9j ?k9z ?_; (case k9F => k_asm); (case k9N => k_asm); (case k9a => kmk_list); (case k9b => kmk_list); (case k9i => l_ints); (case k9j => l_ints); (case k9z => ((try simp only [List.length_cons, List.length_nil]); omega)); k_whole)); walk_at "t_add_mineB"))) | walk1 | (dsimp only; walk1) | (leave1; (try dsimp only)))
    refine Stop.go (comp_rule (by assumption) rfl (by decide) rfl (by decide) rfl ?_ (fun _ => rfl))
    repeat' (first | (k_unfold; (try dsimp only)) | (k_end; kc_close) | (first | ((with_reducible show wpAny _ _ (eval (Expr.IfExp _ _ _ _) _) _ _ _); with_reducible (with_reducible refine Stop.go ?_)) | ((with_reducible show wpAny _ _ (eval (Expr.ListComp _ _ _ _) _) _ _ _); with_reducible (with_reducible refine Stop.go ?_)) | ((with_reducible show wpAny _ _ (call (Value.ref _) _ _) _ _ _); k_here; (with_unfolding_all show wpAny _ _ (call (Value.ref 214) [Value.ref _]) _ _ _); (refine' shown_call ?k9S ?k9F ?k9N ?k9hl ?k9hi ?k9hlen ?k9hA ?k9hroom ?_; (case k9F => k_asm); (case k9N => k_asm); (case k9S => assumption); (case k9hl => is_list); (case k9hi => l_ints); (case k9hlen => walk_at "m_rm"); (case k9hA => rfl); (case k9hroom => walk_at "m_rm"); k_whole); walk_at "t_shown_call_214") | ((with_reducible show wpAny _ _ (binaryOp _ (Value.ref _) (Value.ref _)) _ _ _); with_reducible (k_here; (with_reducible show wpAny _ _ (binaryOp _ (Value.ref _) (Value.ref _)) _ _ _); k_dflt (first | (refine' add_mineB ?k9F ?k9N ?k9a ?k9b ?k9i ?k9j ?k9y ?k9z ?k9k ?_; (case k9F => k_asm); (case k9N => k_asm); (case k9a => kmk_list); (case k9b => kmk_list); (case k9i => l_ints); (case k9j => l_ints); (case k9y => walk_at "m_bd"); (case k9z => walk_at "m_bd"); (case k9k => rfl); k_whole) | (refine' add_mine ?k9F ?k9N ?k9a ?k9b ?k9i ?k9j ?k9z ?_; (case k9F => k_asm); (case k9N => k_asm); (case k9a => kmk_list); (case k9b => kmk_list); (case k9i => l_ints); (case k9j => l_ints); (case k9z => ((try simp only [List.length_cons, List.length_nil]); omega)); k_whole)); walk_at "t_add_mineB"))) | walk1 | (dsimp only; walk1) | (leave1; (try dsimp only)))
    refine P.str_of_int hu1 ?_
    walk_at "m_ord"
    case hsz => exact Nat.le_trans (textOf_size hu1) (by decide)
    have htx := textOf_size hu1
    rename (_ = Array.size _) => hyl
    change _ = (textOf u).cps.size at hyl
    replace hyl := Nat.le_trans (Nat.le_of_eq hyl) htx
    repeat' (first | (k_unfold; (try dsimp only)) | (k_end; kc_close) | (first | ((with_reducible show wpAny _ _ (eval (Expr.IfExp _ _ _ _) _) _ _ _); with_reducible (with_reducible refine Stop.go ?_)) | ((with_reducible show wpAny _ _ (eval (Expr.ListComp _ _ _ _) _) _ _ _); with_reducible (with_reducible refine Stop.go ?_)) | ((with_reducible show wpAny _ _ (call (Value.ref _) _ _) _ _ _); k_here; (with_unfolding_all show wpAny _ _ (call (Value.ref 214) [Value.ref _]) _ _ _); (refine' shown_call ?k9S ?k9F ?k9N ?k9hl ?k9hi ?k9hlen ?k9hA ?k9hroom ?_; (case k9F => k_asm); (case k9N => k_asm); (case k9S => assumption); (case k9hl => is_list); (case k9hi => l_ints); (case k9hlen => walk_at "m_rm"); (case k9hA => rfl); (case k9hroom => walk_at "m_rm"); k_whole); walk_at "t_shown_call_214") | ((with_reducible show wpAny _ _ (binaryOp _ (Value.ref _) (Value.ref _)) _ _ _); with_reducible (k_here; (with_reducible show wpAny _ _ (binaryOp _ (Value.ref _) (Value.ref _)) _ _ _); k_dflt (first | (refine' add_mineB ?k9F ?k9N ?k9a ?k9b ?k9i ?k9j ?k9y ?k9z ?k9k ?_; (case k9F => k_asm); (case k9N => k_asm); (case k9a => kmk_list); (case k9b => kmk_list); (case k9i => l_ints); (case k9j => l_ints); (case k9y => walk_at "m_bd"); (case k9z => walk_at "m_bd"); (case k9k => rfl); k_whole) | (refine' add_mine ?k9F ?k9N ?k9a ?k9b ?k9i ?k9j ?k9z ?_; (case k9F => k_asm); (case k9N => k_asm); (case k9a => kmk_list); (case k9b => kmk_list); (case k9i => l_ints); (case k9j => l_ints); (case k9z => ((try simp only [List.length_cons, List.length_nil]); omega)); k_whole)); walk_at "t_add_mineB"))) | walk1 | (dsimp only; walk1) | (leave1; (try dsimp only)))
    rename Fr _ _ _ _ => F2
    rename News _ _ _ _ => N2
    refine ret.of F2 (kept1 ht (N2.get (by k_mem))) N2 (.head _) (notin1 (by omega)) ?_
    unfold rowF digF textOf
    assumption
end

local macro_rules | `(tactic| walk_at "t_quoted_call_89") => `(tactic| (intro D vs' n' h' tk hne F' N' hI hL; (try k_sweep); (try (first | (replace hne := neAll_of hne; dsimp only [NeAll] at hne; fail_if_success (unfold NeAll at hne)) | simp only [AllNe, and_true] at hne))))
section
local macro_rules | `(tactic| walk_at "m_ord") => `(tactic| (
  (refine' CGo.ordH ?hH ?F ?N ?hsz ?step ?done);
  (case hH => assumption); (case F => k_asm); (case N => k_asm);
  (case step => (
    (intro i ys c u I oI C oC D m₂ h tk E' hi hy hc hC hx F₁ N₁ off ne);
    repeat' (first | (k_unfold; (try dsimp only)) | (k_end; kc_close) | (first | ((with_reducible show wpAny _ _ (eval (Expr.ListComp _ _ _ _) _) _ _ _); with_reducible (with_reducible refine Stop.go ?_)) | ((with_reducible show wpAny _ _ (call (Value.ref _) _ _) _ _ _); k_here; (with_unfolding_all show wpAny _ _ (call (Value.ref 89) [Value.ref _]) _ _ _); (refine' quoted_call ?k9S ?k9hH ?k9F ?k9N ?k9hl ?k9hi ?k9hlen ?k9hA ?k9hroom ?_; (case k9hH => assumption); (case k9F => k_asm); (case k9N => k_asm); (case k9S => assumption); (case k9hl => is_list); (case k9hi => l_ints); (case k9hlen => walk_at "m_rm"); (case k9hA => rfl); (case k9hroom => walk_at "m_rm"); k_whole); walk_at "t_quoted_call_89") | ((with_reducible show wpAny _ _ (binaryOp _ (Value.ref _) (Value.ref _)) _ _ _); with_reducible (k_here; (with_reducible show wpAny _ _ (binaryOp _ (Value.ref _) (Value.ref _)) _ _ _); k_dflt (first | (refine' add_mineB ?k9F ?k9N ?k9a ?k9b ?k9i ?k9j ?k9y ?k9z ?k9k ?_; (case k9F => k_asm); (case k9N => k_asm); (case k9a => kmk_list); (case k9b => kmk_list); (case k9i => l_ints); (case k9j => l_ints); (case k9y => walk_at "m_bd"); (case k9z => walk_at "m_bd"); (case k9k => rfl); k_whole) | (refine' add_mine ?k9F ?k9N ?k9a ?k9b ?k9i ?k9j ?k9z ?_; (case k9F => k_asm); (case k9N => k_asm); (case k9a => kmk_list); (case k9b => kmk_list); (case k9i => l_ints); (case k9j => l_ints); (case k9z => ((try simp only [List.length_cons, List.length_nil]); omega)); k_whole)); walk_at "t_add_mineB"))) | walk1 | (dsimp only; walk1) | (leave1; (try dsimp only)));
    (rename Fr _ _ _ _ => F₂); (rename News _ _ _ _ => N₂);
    (exact CEnd.mk _ F₂ N₂ (fun p hp => hp) off ⟨rfl, _, rfl⟩)));
  rotate_left;
  (intro ys gg hy hyl D h tk F₁ N₁ off); (try simp only [LCg.Off1, and_true] at off)))
theorem ab_ne {P : Params} {h : Heap} {x dx wa ta : Addr} {e : Bool} {u : Int} {t1 t2 t3 t4 t5 : Tok} (hx : h.get? x = some (abObj dx)) (hdx : h.get? dx = some (abDict P wa ta e u t1 t2 t3 t4 t5)) : @Ne Nat x dx := by
  rintro rfl; rw [hx] at hdx; cases hdx
theorem list_ne {h : Heap} {l x : Addr} {vs : Array Value} {o : Obj} (hl : h.IsList l vs) (hx : h.get? x = some o) (hc : o.cls ≠ .type "list") : @Ne Nat l x := by
  rintro rfl; obtain ⟨o', e1, e2, _⟩ := hl; rw [hx] at e1; cases e1; exact hc e2
theorem notin2 {a x y : Addr} (h : @Ne Nat a x) (h' : @Ne Nat a y) : a ∉ [x, y] := by simp; exact ⟨h, h'⟩
inductive AbAt (P : Params) (b h : Heap) (a : Addr) (e : Ent) : Prop
  | mk (adx : Addr) (wa : Addr) (ta : Addr) (t1 : Tok) (t2 : Tok) (t3 : Tok) (t4 : Tok) (t5 : Tok) (vw : List Value) (vt : List Value) (e0 : b.get? a = none) (e1 : b.get? adx = none) (e2 : h.get? a = some (abObj adx)) (e3 : h.get? adx = some (abDict P wa ta e.2.2.2 e.2.1 t1 t2 t3 t4 t5)) (e4 : h.IsList wa (List.toArray vw)) (e5 : IntsAre vw e.1) (e6 : h.IsList ta (List.toArray vt)) (e7 : IntsAre vt e.2.2.1) : AbAt P b h a e
theorem AbAt.keep {P : Params} {b h h' : Heap} {a : Addr} {e : Ent} (x : AbAt P b h a e) (k : h.StaysIn h') : AbAt P b h' a e :=
  let ⟨adx, wa, ta, t1, t2, t3, t4, t5, vw, vt, z1, z2, h1, h2, h3, h4, h5, h6⟩ := x
  ⟨adx, wa, ta, t1, t2, t3, t4, t5, vw, vt, z1, z2, k _ _ h1, k _ _ h2, isList_keeps h3 k, h4, isList_keeps h5 k, h6⟩
theorem etext_spec {w : World} {mean mg mb} {b : Heap} {s : Shared} {dp un : Nat} {fr : Option (List Env)} {gd : Option (List Code)} {R : Result → Shared → Prop} {hd : Option Value} {ax : Addr} {en : Ent}
    (S : Sx w mean mg mb b) (hH : HOk hd b) (hb : b.StaysIn s.heap) (hA : AbAt w.params b s.heap ax en)
    (hlenw : en.1.length < 5000) (hlent : en.2.2.1.length < 5000) (hu1 : en.2.1.natAbs.log2 < 1920) (hroom : dp + 20 < recursionLimit)
    (ret : NewInts s (rowF en.1 en.2.1 en.2.2.1 en.2.2.2) fun v s' => R (.ok (.ret v)) s') :
    codeAny (model PySem.Challenge.rw_on0064_01.row.prog w) ⟨hd, dp, fr, gd, un⟩ (.call (.ref 94) ⟨[.ref ax], []⟩) R s := by
  obtain ⟨cw, u, ct, e⟩ := en
  obtain ⟨adx, wa, ta, t1, t2, t3, t4, t5, vw, vt, hb1, hb2, hx, hdx, hlw, hiw, hlt, hit⟩ := hA
  dsimp only at hiw hit hlenw hlent hu1 hdx ret
  (have KX9 : Fill Mine.hd.heap_39 PySem.Challenge.rw_on0064_01 := (by k_fill; exact trivial); clear KX9)
  refine' enter (binds := [(Str.ofString "entry", .ref ax)]) S hb [ax, adx] (by simp [hb1, hb2]) ?ho ?hcd (by show dp < _; omega) ?hbind ?hloc ?_ ?hcell ?c2 ?c3 ?c4
  ((case ho => ((conv => lhs; whnf); (first | (conv in (occs := *) fd9 _ => all_goals whnf) | (conv in (occs := *) md9 _ _ => all_goals whnf)); (try dsimp only); exact rfl)); (case hcd => k_is); (case hbind => exact BindsTo.of_eq rfl); (case hloc => exact locs rfl); (case hcell => decide); (case c2 => exact rfl); (case c3 => exact rfl); (case c4 => exact rfl))
  intro g L h₁ S' hg hL F K1 env9 Q9 E9
  subst hg hL
  have X := S'.X
  have T := S'.T
  have N : News (hideAll s.heap [ax, adx]) s.heap.objs.size h₁ [(ax, abObj adx), (adx, abDict w.params wa ta e u t1 t2 t3 t4 t5)] := (news1 K1 hx mw0 (news1 K1 hdx mw1 News.nil))
  have d0 := ab_ne hx hdx
  have hH' := hok_hide (W := [ax, adx]) hH hb (by simp [hb1, hb2])
  have hBw : (hideAll s.heap [ax, adx]).IsList wa vw.toArray := isList_hide hlw (notin2 (list_ne hlw hx nofun) (list_ne hlw hdx (by simp)))
  have hBt : (hideAll s.heap [ax, adx]).IsList ta vt.toArray := isList_hide hlt (notin2 (list_ne hlt hx nofun) (list_ne hlt hdx (by simp)))
  have hvw := hiw.length
  have hvt := hit.length
  have hE82 := exact82 X
  repeat' (first | (k_unfold; (try dsimp only)) | (k_end; kc_close) | (first | ((with_reducible show wpAny _ _ (eval (Expr.ListComp _ _ _ _) _) _ _ _); with_reducible (with_reducible refine Stop.go ?_)) | ((with_reducible show wpAny _ _ (call (Value.ref _) _ _) _ _ _); k_here; (with_unfolding_all show wpAny _ _ (call (Value.ref 89) [Value.ref _]) _ _ _); (refine' quoted_call ?k9S ?k9hH ?k9F ?k9N ?k9hl ?k9hi ?k9hlen ?k9hA ?k9hroom ?_; (case k9hH => assumption); (case k9F => k_asm); (case k9N => k_asm); (case k9S => assumption); (case k9hl => is_list); (case k9hi => l_ints); (case k9hlen => walk_at "m_rm"); (case k9hA => rfl); (case k9hroom => walk_at "m_rm"); k_whole); walk_at "t_quoted_call_89") | ((with_reducible show wpAny _ _ (binaryOp _ (Value.ref _) (Value.ref _)) _ _ _); with_reducible (k_here; (with_reducible show wpAny _ _ (binaryOp _ (Value.ref _) (Value.ref _)) _ _ _); k_dflt (first | (refine' add_mineB ?k9F ?k9N ?k9a ?k9b ?k9i ?k9j ?k9y ?k9z ?k9k ?_; (case k9F => k_asm); (case k9N => k_asm); (case k9a => kmk_list); (case k9b => kmk_list); (case k9i => l_ints); (case k9j => l_ints); (case k9y => walk_at "m_bd"); (case k9z => walk_at "m_bd"); (case k9k => rfl); k_whole) | (refine' add_mine ?k9F ?k9N ?k9a ?k9b ?k9i ?k9j ?k9z ?_; (case k9F => k_asm); (case k9N => k_asm); (case k9a => kmk_list); (case k9b => kmk_list); (case k9i => l_ints); (case k9j => l_ints); (case k9z => ((try simp only [List.length_cons, List.length_nil]); omega)); k_whole)); walk_at "t_add_mineB"))) | walk1 | (dsimp only; walk1) | (leave1; (try dsimp only)))
  refine Stop.go (comp_rule (by assumption) rfl (by decide) rfl (by decide) rfl ?_ (fun _ => rfl))
  repeat' (first | (k_unfold; (try dsimp only)) | (k_end; kc_close) | (first | ((with_reducible show wpAny _ _ (eval (Expr.ListComp _ _ _ _) _) _ _ _); with_reducible (with_reducible refine Stop.go ?_)) | ((with_reducible show wpAny _ _ (call (Value.ref _) _ _) _ _ _); k_here; (with_unfolding_all show wpAny _ _ (call (Value.ref 89) [Value.ref _]) _ _ _); (refine' quoted_call ?k9S ?k9hH ?k9F ?k9N ?k9hl ?k9hi ?k9hlen ?k9hA ?k9hroom ?_; (case k9hH => assumption); (case k9F => k_asm); (case k9N => k_asm); (case k9S => assumption); (case k9hl => is_list); (case k9hi => l_ints); (case k9hlen => walk_at "m_rm"); (case k9hA => rfl); (case k9hroom => walk_at "m_rm"); k_whole); walk_at "t_quoted_call_89") | ((with_reducible show wpAny _ _ (binaryOp _ (Value.ref _) (Value.ref _)) _ _ _); with_reducible (k_here; (with_reducible show wpAny _ _ (binaryOp _ (Value.ref _) (Value.ref _)) _ _ _); k_dflt (first | (refine' add_mineB ?k9F ?k9N ?k9a ?k9b ?k9i ?k9j ?k9y ?k9z ?k9k ?_; (case k9F => k_asm); (case k9N => k_asm); (case k9a => kmk_list); (case k9b => kmk_list); (case k9i => l_ints); (case k9j => l_ints); (case k9y => walk_at "m_bd"); (case k9z => walk_at "m_bd"); (case k9k => rfl); k_whole) | (refine' add_mine ?k9F ?k9N ?k9a ?k9b ?k9i ?k9j ?k9z ?_; (case k9F => k_asm); (case k9N => k_asm); (case k9a => kmk_list); (case k9b => kmk_list); (case k9i => l_ints); (case k9j => l_ints); (case k9z => ((try simp only [List.length_cons, List.length_nil]); omega)); k_whole)); walk_at "t_add_mineB"))) | walk1 | (dsimp only; walk1) | (leave1; (try dsimp only)))
  refine P.str_of_int hu1 ?_
  walk_at "m_ord"
  case hsz => exact Nat.le_trans (textOf_size hu1) (by omega)
  have htx := textOf_size hu1
  rename (_ = Array.size _) => hyl
  change _ = (textOf u).cps.size at hyl
  replace hyl := Nat.le_trans (Nat.le_of_eq hyl) htx
  repeat' (first | (k_unfold; (try dsimp only)) | (k_end; kc_close) | (first | ((with_reducible show wpAny _ _ (eval (Expr.ListComp _ _ _ _) _) _ _ _); with_reducible (with_reducible refine Stop.go ?_)) | ((with_reducible show wpAny _ _ (call (Value.ref _) _ _) _ _ _); k_here; (with_unfolding_all show wpAny _ _ (call (Value.ref 89) [Value.ref _]) _ _ _); (refine' quoted_call ?k9S ?k9hH ?k9F ?k9N ?k9hl ?k9hi ?k9hlen ?k9hA ?k9hroom ?_; (case k9hH => assumption); (case k9F => k_asm); (case k9N => k_asm); (case k9S => assumption); (case k9hl => is_list); (case k9hi => l_ints); (case k9hlen => walk_at "m_rm"); (case k9hA => rfl); (case k9hroom => walk_at "m_rm"); k_whole); walk_at "t_quoted_call_89") | ((with_reducible show wpAny _ _ (binaryOp _ (Value.ref _) (Value.ref _)) _ _ _); with_reducible (k_here; (with_reducible show wpAny _ _ (binaryOp _ (Value.ref _) (Value.ref _)) _ _ _); k_dflt (first | (refine' add_mineB ?k9F ?k9N ?k9a ?k9b ?k9i ?k9j ?k9y ?k9z ?k9k ?_; (case k9F => k_asm); (case k9N => k_asm); (case k9a => kmk_list); (case k9b => kmk_list); (case k9i => l_ints); (case k9j => l_ints); (case k9y => walk_at "m_bd"); (case k9z => walk_at "m_bd"); (case k9k => rfl); k_whole) | (refine' add_mine ?k9F ?k9N ?k9a ?k9b ?k9i ?k9j ?k9z ?_; (case k9F => k_asm); (case k9N => k_asm); (case k9a => kmk_list); (case k9b => kmk_list); (case k9i => l_ints); (case k9j => l_ints); (case k9z => ((try simp only [List.length_cons, List.length_nil]); omega)); k_whole)); walk_at "t_add_mineB"))) | walk1 | (dsimp only; walk1) | (leave1; (try dsimp only)))
  all_goals (
    rename Fr _ _ _ _ => F2
    rename News _ _ _ _ => N2
    refine ret.of F2 (kept2 hx (N2.get (by k_mem)) hdx (N2.get (by k_mem))) N2 (.head _) (notin2 (by omega) (by omega)) ?_
    rename (e = _) => he
    subst he
    rename IntsAre _ _ => hfin
    unfold rowF digF textOf
    simpa using hfin)

theorem eword_spec {w : World} {mean mg mb} {b : Heap} {s : Shared} {dp un : Nat} {fr : Option (List Env)} {gd : Option (List Code)} {R : Result → Shared → Prop} {hd : Option Value} {ax : Addr} {en : Ent}
    (S : Sx w mean mg mb b) (hH : HOk hd b) (hb : b.StaysIn s.heap) (hA : AbAt w.params b s.heap ax en) (hroom : dp + 20 < recursionLimit)
    (ret : ∀ wa h' tk vw, Kp [] s.heap h' → s.heap.IsList wa (List.toArray vw) → IntsAre vw en.1 → (∃ adx ta t1 t2 t3 t4 t5, s.heap.get? ax = some (abObj adx) ∧ s.heap.get? adx = some (abDict w.params wa ta en.2.2.2 en.2.1 t1 t2 t3 t4 t5)) → R (.ok (.ret (.ref wa))) { s with heap := h', toks := tk }) :
    codeAny (model PySem.Challenge.rw_on0064_01.row.prog w) ⟨hd, dp, fr, gd, un⟩ (.call (.ref 101) ⟨[.ref ax], []⟩) R s := by
  obtain ⟨cw, u, ct, e⟩ := en
  obtain ⟨adx, wa, ta, t1, t2, t3, t4, t5, vw, vt, hb1, hb2, hx, hdx, hlw, hiw, hlt, hit⟩ := hA
  dsimp only at hiw hit hdx ret
  (have KX9 : Fill Mine.hd.heap_39 PySem.Challenge.rw_on0064_01 := (by k_fill; exact trivial); clear KX9)
  refine' enter (binds := [(Str.ofString "entry", .ref ax)]) S hb [ax, adx] (by simp [hb1, hb2]) ?ho ?hcd (by show dp < _; omega) ?hbind ?hloc ?_ ?hcell ?c2 ?c3 ?c4
  ((case ho => ((conv => lhs; whnf); (first | (conv in (occs := *) fd9 _ => all_goals whnf) | (conv in (occs := *) md9 _ _ => all_goals whnf)); (try dsimp only); exact rfl)); (case hcd => k_is); (case hbind => exact BindsTo.of_eq rfl); (case hloc => exact locs rfl); (case hcell => decide); (case c2 => exact rfl); (case c3 => exact rfl); (case c4 => exact rfl))
  intro g L h₁ S' hg hL F K1 env9 Q9 E9
  subst hg hL
  have X := S'.X
  have T := S'.T
  have N : News (hideAll s.heap [ax, adx]) s.heap.objs.size h₁ [(ax, abObj adx), (adx, abDict w.params wa ta e u t1 t2 t3 t4 t5)] := (news1 K1 hx mw0 (news1 K1 hdx mw1 News.nil))
  have d0 := ab_ne hx hdx
  have hH' := hok_hide (W := [ax, adx]) hH hb (by simp [hb1, hb2])
  repeat' (first | (k_unfold; (try dsimp only)) | (k_end; kc_close) | (first | ((with_reducible show wpAny _ _ (eval (Expr.ListComp _ _ _ _) _) _ _ _); with_reducible (with_reducible refine Stop.go ?_)) | ((with_reducible show wpAny _ _ (call (Value.ref _) _ _) _ _ _); k_here; (with_unfolding_all show wpAny _ _ (call (Value.ref 89) [Value.ref _]) _ _ _); (refine' quoted_call ?k9S ?k9hH ?k9F ?k9N ?k9hl ?k9hi ?k9hlen ?k9hA ?k9hroom ?_; (case k9hH => assumption); (case k9F => k_asm); (case k9N => k_asm); (case k9S => assumption); (case k9hl => is_list); (case k9hi => l_ints); (case k9hlen => walk_at "m_rm"); (case k9hA => rfl); (case k9hroom => walk_at "m_rm"); k_whole); walk_at "t_quoted_call_89") | ((with_reducible show wpAny _ _ (binaryOp _ (Value.ref _) (Value.ref _)) _ _ _); with_reducible (k_here; (with_reducible show wpAny _ _ (binaryOp _ (Value.ref _) (Value.ref _)) _ _ _); k_dflt (first | (refine' add_mineB ?k9F ?k9N ?k9a ?k9b ?k9i ?k9j ?k9y ?k9z ?k9k ?_; (case k9F => k_asm); (case k9N => k_asm); (case k9a => kmk_list); (case k9b => kmk_list); (case k9i => l_ints); (case k9j => l_ints); (case k9y => walk_at "m_bd"); (case k9z => walk_at "m_bd"); (case k9k => rfl); k_whole) | (refine' add_mine ?k9F ?k9N ?k9a ?k9b ?k9i ?k9j ?k9z ?_; (case k9F => k_asm); (case k9N => k_asm); (case k9a => kmk_list); (case k9b => kmk_list); (case k9i => l_ints); (case k9j => l_ints); (case k9z => ((try simp only [List.length_cons, List.length_nil]); omega)); k_whole)); walk_at "t_add_mineB"))) | walk1 | (dsimp only; walk1) | (leave1; (try dsimp only)))
  rename Fr _ _ _ _ => F2
  rename News _ _ _ _ => N2
  exact ret wa _ _ vw (kp_sub (kp_of F2) (kept2 hx (N2.get (by k_mem)) hdx (N2.get (by k_mem)))) hlw hiw ⟨adx, ta, t1, t2, t3, t4, t5, hx, hdx⟩
end

section
theorem quotedAt_lt {cs f r : List Int} {p : Nat} (h : quotedAt (cs.drop p) = some (f, r)) : p < cs.length - r.length ∧ r.length ≤ cs.length ∧ f.length + r.length < cs.length := by
  unfold quotedAt at h
  split at h
  · cases h
  · rename_i c r' e
    split at h
    · have h1 := quotedF_suffix _ _ _ _ (Nat.le_refl _) h
      have e2 : (cs.drop p).length = r'.length + 1 := by rw [e]; rfl
      rw [List.length_drop] at e2; omega
    · cases h
theorem numAt_le {cs r : List Int} {u : Int} (h : numAt cs = some (u, r)) : r.length ≤ cs.length := by
  unfold numAt at h
  split at h
  · cases h
  · simp only [Option.some.injEq, Prod.mk.injEq] at h
    rw [← h.2]; simp
theorem codeAt_lt {cs : List Int} {p : Nat} (h : codeAt cs ((p : Nat) : Int) ≠ -1) : p < cs.length := (codeAt_in h).1
theorem entryEnd_lt {cs w t : List Int} {u : Int} {p p' : Nat} {e : Ent} (h : entryEnd cs w u t p = some (e, p')) : p < p' ∧ p' ≤ cs.length ∧ e.1 = w ∧ e.2.1 = u ∧ e.2.2.1 = t := by
  unfold entryEnd at h
  split at h
  · split at h
    · rename_i hx
      simp only [Option.some.injEq, Prod.mk.injEq] at h
      obtain ⟨rfl, rfl⟩ := h
      have : codeAt cs ((p + 6 : Nat) : Int) = 10 := by
        unfold exactAt at hx
        simp only [Bool.and_eq_true, beq_iff_eq] at hx
        exact hx.2
      have := codeAt_lt (cs := cs) (p := p + 6) (by omega)
      exact ⟨by omega, by omega, rfl, rfl, rfl⟩
    · cases h
  · split at h
    · simp only [Option.some.injEq, Prod.mk.injEq] at h
      obtain ⟨rfl, rfl⟩ := h
      have := codeAt_lt (cs := cs) (p := p) (by omega)
      exact ⟨by omega, by omega, rfl, rfl, rfl⟩
    · cases h
theorem entryAt_lt {cs : List Int} {p p' : Nat} {e : Ent} (h : entryAt cs p = some (e, p')) : p < p' ∧ p' ≤ cs.length := by
  unfold entryAt at h
  split at h
  · cases h
  · rename_i q
    split at h
    · split at h
      · cases h
      · rename_i q2
        split at h
        · split at h
          · cases h
          · rename_i q3
            have h1 := quotedAt_lt q
            have h2 := numAt_le q2
            have h3 := quotedAt_lt q3
            have h4 := entryEnd_lt h
            rw [List.length_drop] at h2
            omega
        · cases h
    · cases h

noncomputable def entsF (cs : List Int) : Nat → Nat → Option (List Ent)
  | 0, _ => none
  | n + 1, p => if p < cs.length then (match entryAt cs p with
    | none => none
    | some (e, p') => (entsF cs n p').map (e :: ·)) else some []
noncomputable def entsOf (cs : List Int) : Option (List Ent) := entsF cs (cs.length + 1) 0
noncomputable def EInv (W : Option (List Ent)) (cs : List Int) (p : Nat) (acc : List Ent) : Prop := ∃ k, cs.length - p < k ∧ W = (entsF cs k p).map (acc ++ ·)
theorem EInv.start (cs : List Int) : EInv (entsOf cs) cs 0 [] := ⟨cs.length + 1, by omega, by unfold entsOf; cases entsF cs (cs.length + 1) 0 <;> simp⟩
theorem EInv.stop {W cs p acc} (h : EInv W cs p acc) (hp : cs.length ≤ p) : W = some acc := by
  obtain ⟨k, hk, e⟩ := h
  cases k with
  | zero => omega
  | succ k => rw [e]; unfold entsF; rw [if_neg (by omega)]; simp
theorem EInv.bad {W cs p acc} (h : EInv W cs p acc) (hp : p < cs.length) (hn : entryAt cs p = none) : W = none := by
  obtain ⟨k, hk, e⟩ := h
  cases k with
  | zero => omega
  | succ k => rw [e]; unfold entsF; rw [if_pos hp, hn]; rfl
theorem EInv.go {W cs p acc e p'} (h : EInv W cs p acc) (hp : p < cs.length) (hn : entryAt cs p = some (e, p')) : EInv W cs p' (acc ++ [e]) := by
  obtain ⟨k, hk, ee⟩ := h
  cases k with
  | zero => omega
  | succ k =>
    have := entryAt_lt hn
    refine ⟨k, by omega, ?_⟩
    rw [ee]
    conv => lhs; unfold entsF
    rw [if_pos hp, hn]
    (try dsimp only)
    cases entsF cs k p' <;> simp

inductive AbIn (P : Params) (ex : List (Addr × Obj)) (a : Addr) (e : Ent) : Prop
  | mk (adx : Addr) (wa : Addr) (ta : Addr) (t1 : Tok) (t2 : Tok) (t3 : Tok) (t4 : Tok) (t5 : Tok) (vw : List Value) (nw : Nat) (vt : List Value) (nt : Nat) (e0 : (a, abObj adx) ∈ ex) (e1 : (adx, abDict P wa ta e.2.2.2 e.2.1 t1 t2 t3 t4 t5) ∈ ex) (e2 : (wa, listOf (List.toArray vw) nw) ∈ ex) (e3 : IntsAre vw e.1) (e4 : (ta, listOf (List.toArray vt) nt) ∈ ex) (e5 : IntsAre vt e.2.2.1) : AbIn P ex a e
theorem AbIn.mono {P : Params} {ex ex' : List (Addr × Obj)} {a : Addr} {e : Ent} (x : AbIn P ex a e) (k : ∀ p ∈ ex, p ∈ ex') : AbIn P ex' a e :=
  let ⟨adx, wa, ta, t1, t2, t3, t4, t5, vw, nw, vt, nt, h1, h2, h3, h4, h5, h6⟩ := x
  ⟨adx, wa, ta, t1, t2, t3, t4, t5, vw, nw, vt, nt, k _ h1, k _ h2, k _ h3, h4, k _ h5, h6⟩
theorem AbIn.at {P : Params} {ex : List (Addr × Obj)} {b h : Heap} {a : Addr} {e : Ent} (x : AbIn P ex a e) (k : ∀ p ∈ ex, h.get? p.1 = some p.2 ∧ b.get? p.1 = none) : AbAt P b h a e :=
  let ⟨adx, wa, ta, t1, t2, t3, t4, t5, vw, nw, vt, nt, h1, h2, h3, h4, h5, h6⟩ := x
  ⟨adx, wa, ta, t1, t2, t3, t4, t5, vw, vt, (k _ h1).2, (k _ h2).2, (k _ h1).1, (k _ h2).1, ⟨_, (k _ h3).1, rfl, _, rfl⟩, h4, ⟨_, (k _ h5).1, rfl, _, rfl⟩, h6⟩
noncomputable def AbsIn (P : Params) (ex : List (Addr × Obj)) : List Value → List Ent → Prop
  | [], [] => True
  | v :: vs, e :: es => (∃ a, v = .ref a ∧ AbIn P ex a e) ∧ AbsIn P ex vs es
  | _, _ => False
theorem AbsIn.mono {P : Params} {ex ex' : List (Addr × Obj)} (k : ∀ p ∈ ex, p ∈ ex') : ∀ {vs : List Value} {es : List Ent}, AbsIn P ex vs es → AbsIn P ex' vs es
  | [], [], _ => trivial
  | _ :: _, _ :: _, ⟨⟨a, e, x⟩, r⟩ => ⟨⟨a, e, x.mono k⟩, r.mono k⟩
  | [], _ :: _, x => x.elim
  | _ :: _, [], x => x.elim
theorem AbsIn.snoc {P : Params} {ex : List (Addr × Obj)} {a : Addr} {e : Ent} (y : AbIn P ex a e) : ∀ {vs : List Value} {es : List Ent}, AbsIn P ex vs es → AbsIn P ex (vs ++ [.ref a]) (es ++ [e])
  | [], [], _ => ⟨⟨a, rfl, y⟩, trivial⟩
  | _ :: _, _ :: _, ⟨x, r⟩ => ⟨x, AbsIn.snoc y r⟩
  | [], _ :: _, x => x.elim
  | _ :: _, [], x => x.elim
theorem AbsIn.length {P : Params} {ex : List (Addr × Obj)} : ∀ {vs : List Value} {es : List Ent}, AbsIn P ex vs es → vs.length = es.length
  | [], [], _ => rfl
  | _ :: _, _ :: _, ⟨_, r⟩ => congrArg (· + 1) r.length
  | [], _ :: _, x => x.elim
  | _ :: _, [], x => x.elim
theorem AbsIn.at {P : Params} {ex : List (Addr × Obj)} : ∀ {vs : List Value} {es : List Ent} {i : Nat} {v : Value}, AbsIn P ex vs es → vs[i]? = some v → ∃ a e, v = .ref a ∧ es[i]? = some e ∧ AbIn P ex a e
  | _ :: _, _ :: _, 0, v, ⟨⟨a, h, x⟩, _⟩, hv => by simp at hv; exact ⟨a, _, by rw [← hv, h], by simp, x⟩
  | _ :: _, _ :: _, i + 1, v, ⟨_, r⟩, hv => by
    obtain ⟨a, e, h1, h2, h3⟩ := r.at (i := i) (by simpa using hv)
    exact ⟨a, e, h1, by simpa using h2, h3⟩
  | [], [], _, _, _, hv => by simp at hv
  | [], _ :: _, _, _, x, _ => x.elim
  | _ :: _, [], _, _, x, _ => x.elim
section
variable {w : World} {mean : ExcName → Option Value} {mg mb : Str → Option Value} {b g : Heap} {s₀ : Shared} {dp un tk : Nat} {fr : List Env} {gd : Option (List Code)} {W W' : List Addr} {h h' : Heap} {m : Str → Option Value} {x dx l L e : Addr} {at_ : Nat} {t1 t2 t3 tc : Tok} {vs : List Value} {cs : List Int} {n : Nat}
  {news : List (Addr × Obj)} {name : Str} {scope : Scope} {a : Addr} {cd : Value} {R : Result → Shared → Prop}
theorem Ctx.callee2 (C : Ctx b s₀.heap W fr) (F : Fr (hideAll s₀.heap W) s₀.heap.objs.size h m) (N : News (hideAll s₀.heap W) s₀.heap.objs.size h news) (hs : ∀ a ∈ W', ∃ o, (a, o) ∈ news) (hk : scope.kind = .function := by rfl) :
    Ctx b h W' (envOf name scope s₀.heap.objs.size a cd :: fr) := by
  obtain ⟨k1, k2, k3, k4⟩ := under_ff C.stays C.out C.ff C.off F
  refine ⟨k1, fun z hz => ?_, k2 _ _ _ _ hk, fun z hz q => ?_⟩
  · obtain ⟨o, hm⟩ := hs z hz
    exact fresh_of_stays (hide_stays C.stays C.out) (N _ hm).2.2
  · obtain ⟨o, hm⟩ := hs z hz
    rw [frs_cons rfl] at q
    rcases List.mem_cons.mp q with q | q
    · exact (N _ hm).2.1 q
    · obtain ⟨_, o', e1, _⟩ := C.ff.mem q
      have e2 := hideAll_get W e1 (fun y => C.off z y q)
      rw [(N _ hm).2.2] at e2; cases e2

theorem entry_call (S : Sx w mean mg mb b) (C : Ctx b s₀.heap W fr) (F : Fr (hideAll s₀.heap W) s₀.heap.objs.size h m) (N : News (hideAll s₀.heap W) s₀.heap.objs.size h news)
    (hx : (x, rdObj dx) ∈ news) (hl : (l, listOf vs.toArray n) ∈ news) {G : Obj → List (Addr × Obj)} (U : UpdF dx (rdDict w.params l at_ t1 t2 t3) news G) (hi : IntsAre vs cs)
    (hlen : cs.length < 1000000) (hcs : ∀ c ∈ cs, 0 ≤ c) (hpl : at_ ≤ cs.length) (hroom : dp + 110 < recursionLimit) (hu : un ≤ 8950) {Q : Value → Shared → Prop} (hk : scope.kind = .function)
    (k : ∀ en p', entryAt cs at_ = some (en, p') → p' ≤ cs.length → ∀ ax ex t h' tk, AbIn w.params ex ax en → (∀ p ∈ ex, AllNe p.1 (G (rdDict w.params l ((p' : Nat) : Int) t1 t2 t))) → Fr (hideAll s₀.heap W) s₀.heap.objs.size h' m → News (hideAll s₀.heap W) s₀.heap.objs.size h' (ex ++ G (rdDict w.params l ((p' : Nat) : Int) t1 t2 t)) → Q (.ref ax) { s₀ with heap := h', toks := tk })
    (bad : entryAt cs at_ = none → ∀ e h' tk, Rz b fr e s₀.heap h' → R (.error (.ref e)) { s₀ with heap := h', toks := tk }) :
    wpAny (model PySem.Challenge.rw_on0064_01.row.prog w) ((⟨none, dp, some fr, gd, un⟩ : Around).deeper (envOf name scope s₀.heap.objs.size a cd)) (call (.ref 169) [.ref x]) Q
      (fun e s' => wpAny (model PySem.Challenge.rw_on0064_01.row.prog w) ((⟨none, dp, some fr, gd, un⟩ : Around).deeper (envOf name scope s₀.heap.objs.size a cd)) (leaving (envOf name scope s₀.heap.objs.size a cd) e) (fun _ s'' => R (.error e) s'') (fun e' s'' => R (.error e') s'') s')
      { s₀ with heap := h, toks := tk } := by
  have hdx : (dx, rdDict w.params l at_ t1 t2 t3) ∈ news := by
    obtain ⟨pre, post, rfl, _⟩ := U.split
    exact List.mem_append_right _ (.head _)
  have C' := C.callee2 (W' := [x, dx, l]) (name := name) (scope := scope) (a := a) (cd := cd) F N (by
    intro z hz; simp at hz; rcases hz with rfl | rfl | rfl
    · exact ⟨_, hx⟩
    · exact ⟨_, hdx⟩
    · exact ⟨_, hl⟩) hk
  refine wpAny_call (entry_spec S C' (N.get hx) (N.get hdx) (N.get hl) hi hlen hcs hpl (by show dp + 1 + 100 < _; omega) (by show un + 3 ≤ 8960; omega) ?_ ?_)
  · intro w0 u t ex p' hq hp' ax adx fw ft k1 k2 k3 k4 k5 t3' vw nw vt nt h' tk' K hd' hn h1 h2 h3 h4 h5 h6
    obtain ⟨n1, n2, n3, n4⟩ := hn
    dsimp only at n1 n2 n3 n4
    have N' := News.updF N U K hd'
    have F' := Fr.kp F K (by simpa using (N _ hdx).2.1.symm) (by simpa using (N _ hdx).2.2)
    have old : ∀ p ∈ G (rdDict w.params l ((p' : Nat) : Int) t1 t2 t3'), ∃ o, h.get? p.1 = some o := by
      intro p hp
      obtain ⟨pre, post, e1, e2, _, _⟩ := U.split
      rw [e2] at hp
      rcases List.mem_append.mp hp with z | z
      · exact ⟨_, (N p (by rw [e1]; exact List.mem_append_left _ z)).1⟩
      · rcases List.mem_cons.mp z with rfl | z
        · exact ⟨_, N.get hdx⟩
        · exact ⟨_, (N p (by rw [e1]; exact List.mem_append_right _ (.tail _ z))).1⟩
    have new : ∀ p ∈ [(ax, abObj adx), (adx, abDict w.params fw ft ex u k1 k2 k3 k4 k5), (fw, listOf (List.toArray vw) nw), (ft, listOf (List.toArray vt) nt)], h'.get? p.1 = some p.2 ∧ h.get? p.1 = none := by
      intro p hp
      simp only [List.mem_cons, List.not_mem_nil, or_false] at hp
      rcases hp with rfl | rfl | rfl | rfl
      · exact ⟨h1, n1⟩
      · exact ⟨h2, n2⟩
      · exact ⟨h3, n3⟩
      · exact ⟨h5, n4⟩
    refine k (w0, u, t, ex) p' hq hp' ax [(ax, abObj adx), (adx, abDict w.params fw ft ex u k1 k2 k3 k4 k5), (fw, listOf (List.toArray vw) nw), (ft, listOf (List.toArray vt) nt)] t3' h' tk' ⟨adx, fw, ft, k1, k2, k3, k4, k5, vw, nw, vt, nt, by simp, by simp, by simp, h4, by simp, h6⟩ ?_ F' ?_
    · intro p hp
      refine allNe_of fun q hq e => ?_
      obtain ⟨o, z⟩ := old q hq
      rw [e, (new p hp).2] at z; cases z
    · intro p hp
      rcases List.mem_append.mp hp with hp | hp
      · refine ⟨(new p hp).1, fun q => ?_, fresh_of_stays (fun b o q => F.keep b o q) (new p hp).2⟩
        obtain ⟨oL, _, _, eL, _⟩ := F.ns
        rw [← q, (new p hp).2] at eL; cases eL
      · exact N' p hp
  · intro hc e h' tk Z
    exact Ctx.on C F Z fun h'' tk' Z' => bad hc _ _ _ Z'
end
end

section
theorem valD_bound : ∀ (l : List Int) (a : Int), 0 ≤ a → (∀ c ∈ l, 48 ≤ c ∧ c ≤ 57) → 0 ≤ valD a l ∧ valD a l < (a + 1) * 10 ^ l.length
  | [], a, h, _ => by simp [valD]; omega
  | c :: l, a, h, hc => by
    have h1 := hc c (.head _)
    have ih := valD_bound l (10 * a + c - 48) (by omega) (fun x hx => hc x (.tail _ hx))
    refine ⟨ih.1, Int.lt_of_lt_of_le ih.2 ?_⟩
    rw [List.length_cons, Int.pow_succ, Int.mul_comm (10 ^ l.length) 10, ← Int.mul_assoc]
    refine Int.mul_le_mul_of_nonneg_right (by omega) (Int.le_of_lt (Int.pow_pos (by omega)))
theorem digs_mem {cs : List Int} : ∀ c ∈ digs cs, 48 ≤ c ∧ c ≤ 57 := by
  intro c hc
  have : isDig c = true := by
    unfold digs at hc
    induction cs with
    | nil => simp at hc
    | cons d r ih =>
      rw [List.takeWhile_cons] at hc
      split at hc
      · rcases List.mem_cons.mp hc with rfl | hc
        · assumption
        · exact ih hc
      · simp at hc
  simpa [isDig] using this
theorem digs_le {cs : List Int} : (digs cs).length ≤ cs.length := by
  unfold digs; exact List.IsPrefix.length_le (List.takeWhile_prefix _)
theorem numAt_val {cs r : List Int} {u : Int} (h : numAt cs = some (u, r)) : 0 ≤ u ∧ u < 10 ^ cs.length := by
  unfold numAt at h
  split at h
  · cases h
  · simp only [Option.some.injEq, Prod.mk.injEq] at h
    rw [← h.1]
    have h1 := valD_bound (digs cs) 0 (Int.le_refl _) digs_mem
    refine ⟨h1.1, Int.lt_of_lt_of_le h1.2 ?_⟩
    have h2 : (10 : Int) ^ (digs cs).length ≤ 10 ^ cs.length := by
      have := Nat.pow_le_pow_right (n := 10) (by omega) (digs_le (cs := cs))
      exact_mod_cast this
    omega
theorem quotedAt_mem {cs f r : List Int} {p : Nat} (h : quotedAt (cs.drop p) = some (f, r)) : (∀ c ∈ f, c ∈ cs ∨ c = 10) ∧ f.length < cs.length := by
  have h0 := quotedAt_lt h
  refine ⟨?_, by omega⟩
  unfold quotedAt at h
  split at h
  · cases h
  · rename_i c r' e
    split at h
    · obtain ⟨_, _, h3, _⟩ := quotedF_suffix _ _ _ _ (Nat.le_refl _) h
      intro x hx
      rcases h3 x hx with q | q
      · exact .inl (List.mem_of_mem_drop (i := p) (by rw [e]; exact .tail _ q))
      · exact .inr q
    · cases h
noncomputable def EntOk (e : Ent) : Prop := e.1.length < 1000 ∧ e.2.2.1.length < 1000 ∧ (∀ c ∈ e.1, 0 ≤ c ∧ c < 1000000) ∧ (∀ c ∈ e.2.2.1, 0 ≤ c ∧ c < 1000000) ∧ 0 ≤ e.2.1 ∧ e.2.1.natAbs.log2 < 1920
theorem log2_of {u : Int} {n : Nat} (h0 : 0 ≤ u) (h : u < 10 ^ n) (hn : n ≤ 500) : u.natAbs.log2 < 1920 := by
  by_cases q : u.natAbs = 0
  · rw [q]; decide
  · refine (Nat.log2_lt q).mpr ?_
    have h1 : u.natAbs < 10 ^ n := by
      have : ((u.natAbs : Nat) : Int) < ((10 ^ n : Nat) : Int) := by
        rw [Int.natAbs_of_nonneg h0]; exact_mod_cast h
      exact_mod_cast this
    exact Nat.lt_of_lt_of_le h1 (Nat.le_trans (Nat.pow_le_pow_right (by omega) hn) (by decide +kernel))
theorem entry_ok {cs : List Int} {p p' : Nat} {e : Ent} (h : entryAt cs p = some (e, p')) (hl : cs.length < 500) (hc : ∀ c ∈ cs, 0 ≤ c ∧ c < 1000000) : EntOk e := by
  have ok : ∀ {f : List Int}, (∀ c ∈ f, c ∈ cs ∨ c = 10) → ∀ c ∈ f, 0 ≤ c ∧ c < 1000000 := fun hf c q => by
    rcases hf c q with z | rfl
    · exact hc c z
    · exact ⟨by omega, by omega⟩
  unfold entryAt at h
  split at h
  · cases h
  · rename_i q
    split at h
    · split at h
      · cases h
      · rename_i q2
        split at h
        · split at h
          · cases h
          · rename_i q3
            have h1 := quotedAt_mem q
            have h2 := numAt_val q2
            have h3 := quotedAt_mem q3
            obtain ⟨_, _, rfl, rfl, rfl⟩ := entryEnd_lt h
            refine ⟨by omega, by omega, ok h1.1, ok h3.1, h2.1, log2_of h2.1 h2.2 (by rw [List.length_drop]; omega)⟩
        · cases h
    · cases h
theorem entsF_mem {cs : List Int} : ∀ {k p : Nat} {es : List Ent}, entsF cs k p = some es → ∀ e ∈ es, ∃ p p', entryAt cs p = some (e, p')
  | 0, _, _, h => by simp [entsF] at h
  | k + 1, p, es, h => by
    unfold entsF at h
    split at h
    · split at h
      · cases h
      · rename_i e p' q
        obtain ⟨es', h1, rfl⟩ := Option.map_eq_some_iff.mp h
        intro x hx
        rcases List.mem_cons.mp hx with rfl | hx
        · exact ⟨p, p', q⟩
        · exact entsF_mem h1 x hx
    · cases h; intro x hx; cases hx
theorem ents_ok {cs : List Int} {es : List Ent} (h : entsOf cs = some es) (hl : cs.length < 500) (hc : ∀ c ∈ cs, 0 ≤ c ∧ c < 1000000) : ∀ e ∈ es, EntOk e := fun e he => by
  obtain ⟨p, p', q⟩ := entsF_mem h e he
  exact entry_ok q hl hc
end

local macro_rules | `(tactic| walk_at "t_key_call_61") => `(tactic| (intro t h' tk F' N'; (try k_sweep)))
local macro_rules | `(tactic| walk_at "t_reading_call_172") => `(tactic| (intro ax adx t1 t2 t3 h' tk l1 l2 F' N'; (k_lt l1); (k_lt2 l2); (try k_sweep)))
section
local macro_rules | `(tactic| k_mem) => `(tactic| with_reducible assumption)
local macro_rules | `(tactic| k_all) => `(tactic| with_reducible assumption)
noncomputable def storeAll : List (Str × Value) → List Ent → List Value → List (Str × Value)
  | kvs, e :: es, v :: vs => storeAll (PySem.stored kvs (keyF e.1) v) es vs
  | kvs, _, _ => kvs
theorem mem_mid4 {α : Type} {p a b c d : α} {e r : List α} (h : p ∈ a :: b :: c :: d :: (e ++ r)) : p ∈ e ++ a :: b :: c :: d :: r := by
  simp only [List.mem_cons, List.mem_append] at h ⊢
  rcases h with h | h | h | h | h | h
  · exact .inr (.inl h)
  · exact .inr (.inr (.inl h))
  · exact .inr (.inr (.inr (.inl h)))
  · exact .inr (.inr (.inr (.inr (.inl h))))
  · exact .inl h
  · exact .inr (.inr (.inr (.inr (.inr h))))
theorem ne_app {ex ex' : List (Addr × Obj)} {d : Addr} (h : ∀ q ∈ ex', q.1 ≠ d) (h' : ∀ q ∈ ex, q.1 ≠ d) : ∀ q ∈ ex' ++ ex, q.1 ≠ d := fun q hq => by
  rcases List.mem_append.mp hq with z | z
  · exact h q z
  · exact h' q z
theorem mem_snoc4 {α : Type} {p a a' : α} {r : List α} (h : p ∈ a' :: r) : p ∈ a' :: a :: r := by
  rcases List.mem_cons.mp h with rfl | h
  · exact .head _
  · exact .tail _ (.tail _ h)
theorem storeAll_len : ∀ (es : List Ent) (kvs : List (Str × Value)) (vs : List Value), (storeAll kvs es vs).length ≤ kvs.length + es.length
  | [], kvs, vs => by cases vs <;> simp [storeAll]
  | e :: es, kvs, [] => by simp [storeAll]
  | e :: es, kvs, v :: vs => by
    have h := storeAll_len es (PySem.stored kvs (keyF e.1) v) vs
    have h2 : (PySem.stored kvs (keyF e.1) v).length ≤ kvs.length + 1 := by
      unfold PySem.stored; split <;> simp
    simp only [storeAll, List.length_cons] at *
    omega
theorem storeAll_snoc : ∀ (es : List Ent) (kvs : List (Str × Value)) (vs : List Value) (e : Ent) (v : Value), vs.length = es.length → storeAll kvs (es ++ [e]) (vs ++ [v]) = PySem.stored (storeAll kvs es vs) (keyF e.1) v
  | [], kvs, [], e, v, _ => rfl
  | e' :: es, kvs, v' :: vs, e, v, h => storeAll_snoc es _ vs e v (by simpa using h)
  | [], kvs, _ :: _, e, v, h => by simp at h
  | _ :: _, kvs, [], e, v, h => by simp at h
theorem kp_hide2 {s : Shared} {W W' : List Addr} {h' : Heap} {m : Str → Option Value} (F : Fr (hideAll (hideAll s.heap W) W') s.heap.objs.size h' m) : Kp (W ++ W') s.heap h' :=
  ⟨Nat.le_of_lt F.ns.lt, fun a o n e => F.keep a o (hideAll_get _ (hideAll_get _ e fun q => n (List.mem_append_left _ q)) fun q => n (List.mem_append_right _ q))⟩
theorem News.dup {g h : Heap} {L : Addr} {news : List (Addr × Obj)} {p : Addr × Obj} (N : News g L h news) (hp : p ∈ news) : News g L h (p :: news) := fun q hq => by
  rcases List.mem_cons.mp hq with rfl | hq
  · exact N _ hp
  · exact N q hq
theorem mem7 {α : Type} {p a b c d e f g : α} {r : List α} (h : p ∈ r) : p ∈ a :: b :: c :: d :: e :: f :: g :: r := .tail _ (.tail _ (.tail _ (.tail _ (.tail _ (.tail _ (.tail _ h))))))
inductive ReadI (w : World) (s : Shared) (tx x dx l fl : Addr) (t1' t2' : Tok) (vs : List Value) (cs : List Int) (n : Nat) (k : Nat) (s' : Shared) : Prop
  | mk (h' : Heap) (tk : Nat) (m : Str → Option Value) (acc : List Value) (es : List Ent) (na : Nat) (p : Nat) (t3 : Tok) (ex : List (Addr × Obj)) (e0 : s' = { s with heap := h', toks := tk }) (e1 : Fr (hideAll s.heap [l]) s.heap.objs.size h' m) (e2 : m (Str.ofString "table") = some (.ref tx)) (e3 : m (Str.ofString "codes") = some (.ref l)) (e4 : m (Str.ofString "reading") = some (.ref x)) (e5 : m (Str.ofString "found") = some (.ref fl)) (e6 : News (hideAll s.heap [l]) s.heap.objs.size h' ((fl, listOf (List.toArray acc) na) :: (x, rdObj dx) :: (dx, rdDict w.params l ((p : Nat) : Int) t1' t2' t3) :: (l, listOf (List.toArray vs) n) :: ex)) (e7 : (∀ q ∈ ex, q.1 ≠ fl)) (e8 : (∀ q ∈ ex, q.1 ≠ x)) (e9 : (∀ q ∈ ex, q.1 ≠ dx)) (e10 : (∀ q ∈ ex, q.1 ≠ l)) (e11 : AbsIn w.params ex acc es) (e12 : p ≤ cs.length) (e13 : es.length ≤ p) (e14 : k = cs.length - p) (e15 : EInv (entsOf cs) cs p es) : ReadI w s tx x dx l fl t1' t2' vs cs n k s'
inductive RdI (w : World) (tx tdx en pa fl x dx l : Addr) (nm : Str) (u0 u1 u2 u3 u4 t1' t2' t3 : Tok) (kvs : List (Str × Value)) (es : List Ent) (acc : List Value) (na : Nat) (vs : List Value) (cs : List Int) (n p : Nat) (ex : List (Addr × Obj)) (i : Nat) (m : Str → Option Value) (nw : List (Addr × Obj)) : Prop
  | mk (e0 : m (Str.ofString "table") = some (.ref tx)) (e1 : m (Str.ofString "found") = some (.ref fl)) (oE' : Obj) (e2 : oE'.IsDictOf (PySem.strKind PySem.Challenge.rw_on0064_01.row.prog w) (storeAll kvs (es.take i) (acc.take i)))
    (e3 : nw = (en, oE') :: (tx, tbObj tdx) :: (tdx, tbDict w.params nm pa en u0 u1 u2 u3 u4) :: (fl, listOf (List.toArray acc) na) :: (x, rdObj dx) :: (dx, rdDict w.params l ((p : Nat) : Int) t1' t2' t3) :: (l, listOf (List.toArray vs) n) :: ex) : RdI w tx tdx en pa fl x dx l nm u0 u1 u2 u3 u4 t1' t2' t3 kvs es acc na vs cs n p ex i m nw
set_option maxHeartbeats 0 in
theorem read_spec {w : World} {mean mg mb} {b : Heap} {s : Shared} {dp un : Nat} {fr : List Env} {gd : Option (List Code)} {R : Result → Shared → Prop} {tx tdx en l pa : Addr} {nm : Str} {u0 u1 u2 u3 u4 : Tok} {vs : List Value} {cs : List Int} {n : Nat} {c : Heap} {oE : Obj} {kvs : List (Str × Value)}
    (S : Sx w mean mg mb b) (hbc : b.StaysIn c) (C : Ctx c s.heap [l] fr)
    (ht : s.heap.get? tx = some (tbObj tdx)) (htd : s.heap.get? tdx = some (tbDict w.params nm pa en u0 u1 u2 u3 u4)) (hen : s.heap.get? en = some oE) (hE : oE.IsDictOf (PySem.strKind PySem.Challenge.rw_on0064_01.row.prog w) kvs) (lo : (en == sysModules) = false)
    (hte : @Ne Nat tdx en) (o1 : b.get? tx = none) (o2 : b.get? tdx = none) (o3 : b.get? en = none)
    (hl : s.heap.get? l = some (listOf (List.toArray vs) n)) (hi : IntsAre vs cs) (hlen : cs.length < 500) (hcs : ∀ c ∈ cs, 0 ≤ c ∧ c < 1000000) (hkv : kvs.length ≤ 1000) (hroom : dp + 200 < recursionLimit) (hu : un ≤ 8900)
    (ret : ∀ es, entsOf cs = some es → ∀ h' tk t oE' vs' ex, Kp [en] s.heap h' → h'.get? en = some oE' → oE'.IsDictOf (PySem.strKind PySem.Challenge.rw_on0064_01.row.prog w) (storeAll kvs es vs') → AbsIn w.params ex vs' es → (∀ p ∈ ex, h'.get? p.1 = some p.2 ∧ s.heap.get? p.1 = none) → R (.ok (.ret (.int es.length t))) { s with heap := h', toks := tk })
    (exn : entsOf cs = none → ∀ e h' tk, Rz c fr e s.heap h' → R (.error (.ref e)) { s with heap := h', toks := tk }) :
    codeAny (model PySem.Challenge.rw_on0064_01.row.prog w) ⟨none, dp, some fr, gd, un⟩ (.call (.ref 183) ⟨[.ref tx, .ref l], []⟩) R s := by
  have Sc := S.keeps hbc
  (have KX9 : Fill Mine.hd.heap_39 PySem.Challenge.rw_on0064_01 := (by k_fill; exact trivial); clear KX9)
  refine' enter (binds := [(Str.ofString "table", .ref tx), (Str.ofString "codes", .ref l)]) Sc C.stays [l] C.out ?ho ?hcd (by show dp < _; omega) ?hbind ?hloc ?_ ?hcell ?c2 ?c3 ?c4
  ((case ho => ((conv => lhs; whnf); (first | (conv in (occs := *) fd9 _ => all_goals whnf) | (conv in (occs := *) md9 _ _ => all_goals whnf)); (try dsimp only); exact rfl)); (case hcd => k_is); (case hbind => exact BindsTo.of_eq rfl); (case hloc => exact locs rfl); (case hcell => decide); (case c2 => exact rfl); (case c3 => exact rfl); (case c4 => exact rfl))
  intro g L h₁ S' hg hL F K1 env9 Q9 E9
  subst hg hL
  have X := S'.X
  have T := S'.T
  have N : News (hideAll s.heap [l]) s.heap.objs.size h₁ [(l, listOf (List.toArray vs) n)] := news1 K1 hl mw0 News.nil
  have hvl := hi.length
  have hcs0 : ∀ c ∈ cs, 0 ≤ c := fun c h => (hcs c h).1
  repeat' (first | (k_unfold; (try dsimp only)) | (k_end; kc_close) | (first | ((with_reducible show wpAny _ _ (call (Value.ref _) _ _) _ _ _); first | ((with_unfolding_all show wpAny _ _ (call (Value.ref 169) [Value.ref _]) _ _ _); with_reducible refine Stop.go ?_) | (k_here; (with_unfolding_all show wpAny _ _ (call (Value.ref 61) [Value.ref _]) _ _ _); (refine' key_call ?k9S ?k9F ?k9N ?k9hl ?k9hi ?k9hlen ?k9h0 ?k9hA ?k9hroom ?_; (case k9F => k_asm); (case k9N => k_asm); (case k9S => assumption); (case k9hl => first | is_list | exact News.isList (by k_asm) (by k_mem)); (case k9hi => l_ints); (case k9hlen => walk_at "m_rm"); (case k9h0 => assumption); (case k9hA => rfl); (case k9hroom => walk_at "m_rm"); k_whole); walk_at "t_key_call_61") | (k_here; (with_unfolding_all show wpAny _ _ (call (Value.ref 172) [Value.ref _]) _ _ _); (refine' reading_call ?k9S ?k9F ?k9N ?k9hA ?k9hroom ?_; (case k9F => k_asm); (case k9S => assumption); (case k9N => k_asm); (case k9hA => rfl); (case k9hroom => walk_at "m_rm"); k_whole); walk_at "t_reading_call_172")) | ((with_reducible show wpAny _ _ (exec (Stmt.For _ _ _ _ _) _) _ _ _); with_reducible (k_here; (with_unfolding_all (refine' For_mine ?_ ?k9hs; (case k9hs => intro _; rfl))))) | ((with_reducible show wpAny _ _ (exec (Stmt.While _ _ _ _) _) _ _ _); with_reducible (with_reducible refine Stop.go ?_))) | walk1 | (dsimp only; walk1) | (leave1; (try dsimp only)))
  rename_i x dx t1' t2' t3' _ _ _ _ _ _ _ fl _ _ _ _ _
  rename Fr _ _ _ _ => F0
  rename News _ _ _ _ => N0
  refine Stop.go (while_rule (ReadI w s tx x dx l fl t1' t2' vs cs n) (cs.length) ?_ ?_)
  · exact ⟨_, _, _, [], [], _, 0, _, [], rfl, F0, rfl, rfl, rfl, rfl, N0, by simp, by simp, by simp, by simp, trivial, by omega, by simp, rfl, EInv.start cs⟩
  · rintro k s' ⟨h', tk, m, acc, es, na, p, t3, ex, rfl, F2, m1, m2, m3, m4, N2, q1, q2, q3, q4, hab, hp, hel, rfl, hI⟩
    repeat' (first | (k_unfold; (try dsimp only)) | (k_end; kc_close) | (first | ((with_reducible show wpAny _ _ (call (Value.ref _) _ _) _ _ _); first | ((with_unfolding_all show wpAny _ _ (call (Value.ref 169) [Value.ref _]) _ _ _); with_reducible refine Stop.go ?_) | (k_here; (with_unfolding_all show wpAny _ _ (call (Value.ref 61) [Value.ref _]) _ _ _); (refine' key_call ?k9S ?k9F ?k9N ?k9hl ?k9hi ?k9hlen ?k9h0 ?k9hA ?k9hroom ?_; (case k9F => k_asm); (case k9N => k_asm); (case k9S => assumption); (case k9hl => first | is_list | exact News.isList (by k_asm) (by k_mem)); (case k9hi => l_ints); (case k9hlen => walk_at "m_rm"); (case k9h0 => assumption); (case k9hA => rfl); (case k9hroom => walk_at "m_rm"); k_whole); walk_at "t_key_call_61") | (k_here; (with_unfolding_all show wpAny _ _ (call (Value.ref 172) [Value.ref _]) _ _ _); (refine' reading_call ?k9S ?k9F ?k9N ?k9hA ?k9hroom ?_; (case k9F => k_asm); (case k9S => assumption); (case k9N => k_asm); (case k9hA => rfl); (case k9hroom => walk_at "m_rm"); k_whole); walk_at "t_reading_call_172")) | ((with_reducible show wpAny _ _ (exec (Stmt.For _ _ _ _ _) _) _ _ _); with_reducible (k_here; (with_unfolding_all (refine' For_mine ?_ ?k9hs; (case k9hs => intro _; rfl))))) | ((with_reducible show wpAny _ _ (exec (Stmt.While _ _ _ _) _) _ _ _); with_reducible (with_reducible refine Stop.go ?_))) | walk1 | (dsimp only; walk1) | (leave1; (try dsimp only)))
    · rename (_ < _) => hlt
      have hlt' : p < cs.length := by omega
      refine Stop.go (entry_call Sc C (by k_asm) (by k_asm) (by k_mem) (by k_mem) (by k_updF) hi (by omega) hcs0 hp (by omega) (by omega) rfl ?_ ?_)
      · intro en1 p' hq hp' ax ex' t h1 tk1 hAb hne F3 N3
        have hpp := entryAt_lt hq
        have hJ := hI.go hlt' hq
        have hab' := (hab.mono (ex' := ex' ++ ex) (fun p hp => List.mem_append_right _ hp)).snoc (hAb.mono (ex' := ex' ++ ex) (fun p hp => List.mem_append_left _ hp))
        have r1 := ne_app (fun q z e => (hne q z).1 e.symm) q1
        have r2 := ne_app (fun q z e => (hne q z).2.1 e.symm) q2
        have r3 := ne_app (fun q z e => (hne q z).2.2.1 e.symm) q3
        have r4 := ne_app (fun q z e => (hne q z).2.2.2.1 e.symm) q4
        have N4 := News.sub (news' := (fl, listOf (List.toArray acc) na) :: (x, rdObj dx) :: (dx, rdDict w.params l ((p' : Nat) : Int) t1' t2' t) :: (l, listOf (List.toArray vs) n) :: (ex' ++ ex)) N3 (fun p hp => mem_mid4 hp)
        clear N3 N2 hab q1 q2 q3 q4 F2 hne hAb
        generalize ex' ++ ex = exx at *
        have hacc := hab'.length
        simp only [List.length_append, List.length_singleton] at hacc
        repeat' (first | (k_unfold; (try dsimp only)) | (k_end; kc_close) | (first | ((with_reducible show wpAny _ _ (call (Value.ref _) _ _) _ _ _); first | ((with_unfolding_all show wpAny _ _ (call (Value.ref 169) [Value.ref _]) _ _ _); with_reducible refine Stop.go ?_) | (k_here; (with_unfolding_all show wpAny _ _ (call (Value.ref 61) [Value.ref _]) _ _ _); (refine' key_call ?k9S ?k9F ?k9N ?k9hl ?k9hi ?k9hlen ?k9h0 ?k9hA ?k9hroom ?_; (case k9F => k_asm); (case k9N => k_asm); (case k9S => assumption); (case k9hl => first | is_list | exact News.isList (by k_asm) (by k_mem)); (case k9hi => l_ints); (case k9hlen => walk_at "m_rm"); (case k9h0 => assumption); (case k9hA => rfl); (case k9hroom => walk_at "m_rm"); k_whole); walk_at "t_key_call_61") | (k_here; (with_unfolding_all show wpAny _ _ (call (Value.ref 172) [Value.ref _]) _ _ _); (refine' reading_call ?k9S ?k9F ?k9N ?k9hA ?k9hroom ?_; (case k9F => k_asm); (case k9S => assumption); (case k9N => k_asm); (case k9hA => rfl); (case k9hroom => walk_at "m_rm"); k_whole); walk_at "t_reading_call_172")) | ((with_reducible show wpAny _ _ (exec (Stmt.For _ _ _ _ _) _) _ _ _); with_reducible (k_here; (with_unfolding_all (refine' For_mine ?_ ?k9hs; (case k9hs => intro _; rfl))))) | ((with_reducible show wpAny _ _ (exec (Stmt.While _ _ _ _) _) _ _ _); with_reducible (with_reducible refine Stop.go ?_))) | walk1 | (dsimp only; walk1) | (leave1; (try dsimp only)))
        rename Fr _ _ _ _ => F5
        rename News _ _ _ _ => N5
        exact ⟨cs.length - p', subP hpp.1 hlt', _, _, _, acc ++ [.ref ax], es ++ [en1], _, p', t, exx, rfl, F5, by first | exact rfl | exact m1, by first | exact rfl | exact m2, by first | exact rfl | exact m3, by first | exact rfl | exact m4, News.sub (snocNews2 N5 (by k_mem)) (fun p hp => mem_snoc4 hp), r1, r2, r3, r4, hab', hp', by simp; omega, rfl, hJ⟩
      · intro hbad
        exact exn (hI.bad hlt' hbad)
    · have hW := hI.stop (by omega)
      have hok := ents_ok hW hlen hcs
      have hlb : b.get? l = none := by
        cases q : b.get? l with
        | none => rfl
        | some o => have := hbc _ _ q; rw [C.out l (by simp)] at this; cases this
      have nl1 : @Ne Nat tx l := by rintro rfl; rw [ht] at hl; cases hl
      have nl2 : @Ne Nat tdx l := by rintro rfl; rw [htd] at hl; exact nomatch (congrArg Obj.data (Option.some.inj hl) : Data.dict _ _ = Data.seq _ _)
      have nl3 : @Ne Nat en l := by
        rintro rfl; rw [hen] at hl; cases hl
        obtain ⟨_, _, _, h2, _⟩ := hE; cases h2
      have n12 : @Ne Nat tx tdx := by rintro rfl; rw [ht] at htd; cases htd
      have n13 : @Ne Nat tx en := by
        rintro rfl; rw [ht] at hen; cases hen
        obtain ⟨_, _, _, h2, _⟩ := hE; cases h2
      have gt := hideAll_get [l] ht (notin1 nl1)
      have gtd := hideAll_get [l] htd (notin1 nl2)
      have gen := hideAll_get [l] hen (notin1 nl3)
      rename Fr _ _ _ _ => F3
      rename News _ _ _ _ => N3
      have qen : ∀ q ∈ ex, q.1 ≠ en := fun q hq e => by
        have z := (N3 q (.tail _ (.tail _ (.tail _ (.tail _ hq))))).2.2
        rw [e, gen] at z; cases z
      have qen' : ∀ q ∈ [(fl, listOf (List.toArray acc) na), (x, rdObj dx), (dx, rdDict w.params l ((p : Nat) : Int) t1' t2' t3)], q.1 ≠ en := fun q hq e => by
        have z := (N3 q (allMem mm0 (allMem mm1 (allMem mm2 allMem_nil)) q hq)).2.2
        rw [e, gen] at z; cases z
      have f1 : @Ne Nat fl en := qen' _ (.head _)
      have f2 : @Ne Nat x en := qen' _ (.tail _ (.head _))
      have f3 : @Ne Nat dx en := qen' _ (.tail _ (.tail _ (.head _)))
      have f4 : @Ne Nat l en := Ne.symm nl3
      have hexf : ∀ q ∈ ex, s.heap.get? q.1 = none := fun q hq => fresh_of N3 (.tail _ (.tail _ (.tail _ (.tail _ hq)))) (notin1 (q4 q hq))
      have F4 := Fr.hide (W := [en, tx, tdx]) F3
      have N4 := News.hide (W := [en, tx, tdx]) (led := [(en, oE), (tx, tbObj tdx), (tdx, tbDict w.params nm pa en u0 u1 u2 u3 u4)]) N3 F3 (by simp [gt, gtd, gen])
      have S4 : Sx w mean mg mb (hideAll (hideAll s.heap [l]) [en, tx, tdx]) := S.keeps (hide_stays (hide_stays (fun a o q => C.stays _ _ (hbc _ _ q)) (by simp [hlb])) (by simp [o1, o2, o3]))
      clear X T S' F3 N3
      have X := S4.X
      have T := S4.T
      have hla := hab.length
      refine Stop.go (for_list (n := es.length) (RdI w tx tdx en pa fl x dx l nm u0 u1 u2 u3 u4 t1' t2' t3 kvs es acc na vs cs n p ex) rfl F4 N4 (N4.isList (by k_mem)) (.inr ⟨_, fun i m nw hJ => by obtain ⟨_, _, _, _, rfl⟩ := hJ; k_mem⟩) ?_ ?_ ?_ rfl rfl (by passes_own) (by simpa using hla))
      · exact ⟨m1, m4, oE, by simpa [storeAll] using hE, rfl⟩
      · rintro I i v m₁ nw oI h tk hi' ⟨m1, m4, oE', hE', rfl⟩ hne F₁ N₁
        obtain ⟨a, e, rfl, he, hAb⟩ := hab.at (by simpa using hi')
        have hee : e ∈ es := List.mem_of_getElem? he
        obtain ⟨ok1, ok2, ok3, ok4, ok5⟩ := hok e hee
        obtain ⟨adx, wa, ta, k1, k2, k3, k4, k5, vw, nw', vt, nt, z1, z2, z3, z4, z5, z6⟩ := hAb
        have hsl := storeAll_len (es.take i) kvs (acc.take i)
        rw [List.length_take] at hsl
        have hsz9 : (storeAll kvs (es.take i) (acc.take i)).length ≤ 16777216 := by clear hne q1 q2 q3 q4; omega
        dsimp only at F₁ N₁ ⊢
        have e1 : @Ne Nat a en := qen _ z1
        have e2 : @Ne Nat adx en := qen _ z2
        have e3 : @Ne Nat wa en := qen _ z3
        have N₂ := News.dup (News.dup (News.dup N₁ (.tail _ (mem7 z3))) (.tail _ (.tail _ (mem7 z2)))) (.tail _ (.tail _ (.tail _ (mem7 z1))))
        clear N₁ F0 N0 F4 N4 hI q1 q2 q3 q4 C gt gtd gen K1
        repeat' ((fail_if_success (with_reducible show wpAny _ _ (setItem (Value.ref _) _ _) _ _ _)); (first | (k_unfold; (try dsimp only)) | (k_end; kc_close) | (first | ((with_reducible show wpAny _ _ (call (Value.ref _) _ _) _ _ _); first | ((with_unfolding_all show wpAny _ _ (call (Value.ref 169) [Value.ref _]) _ _ _); with_reducible refine Stop.go ?_) | (k_here; (with_unfolding_all show wpAny _ _ (call (Value.ref 61) [Value.ref _]) _ _ _); (refine' key_call ?k9S ?k9F ?k9N ?k9hl ?k9hi ?k9hlen ?k9h0 ?k9hA ?k9hroom ?_; (case k9F => k_asm); (case k9N => k_asm); (case k9S => assumption); (case k9hl => first | is_list | exact News.isList (by k_asm) (by k_mem)); (case k9hi => l_ints); (case k9hlen => walk_at "m_rm"); (case k9h0 => assumption); (case k9hA => rfl); (case k9hroom => walk_at "m_rm"); k_whole); walk_at "t_key_call_61") | (k_here; (with_unfolding_all show wpAny _ _ (call (Value.ref 172) [Value.ref _]) _ _ _); (refine' reading_call ?k9S ?k9F ?k9N ?k9hA ?k9hroom ?_; (case k9F => k_asm); (case k9S => assumption); (case k9N => k_asm); (case k9hA => rfl); (case k9hroom => walk_at "m_rm"); k_whole); walk_at "t_reading_call_172")) | ((with_reducible show wpAny _ _ (exec (Stmt.For _ _ _ _ _) _) _ _ _); with_reducible (k_here; (with_unfolding_all (refine' For_mine ?_ ?k9hs; (case k9hs => intro _; rfl))))) | ((with_reducible show wpAny _ _ (exec (Stmt.While _ _ _ _) _) _ _ _); with_reducible (with_reducible refine Stop.go ?_))) | walk1 | (dsimp only; walk1) | (leave1; (try dsimp only))))
        have hiI : @Ne Nat I en := Ne.symm hne.1
        have hil : i < es.length := (List.getElem?_eq_some_iff.mp he).1
        refine kda_set (knd := PySem.strKind _ _) (by k_asm) (by k_asm) (by k_updF) hE' (strKind_is _ _ _ _) (by rw [sizeLine_eq]; exact hsz9) ?_
        intro h2 oE2 F5 N5 hE5
        repeat' (first | (k_unfold; (try dsimp only)) | (k_end; kc_close) | (first | ((with_reducible show wpAny _ _ (call (Value.ref _) _ _) _ _ _); first | ((with_unfolding_all show wpAny _ _ (call (Value.ref 169) [Value.ref _]) _ _ _); with_reducible refine Stop.go ?_) | (k_here; (with_unfolding_all show wpAny _ _ (call (Value.ref 61) [Value.ref _]) _ _ _); (refine' key_call ?k9S ?k9F ?k9N ?k9hl ?k9hi ?k9hlen ?k9h0 ?k9hA ?k9hroom ?_; (case k9F => k_asm); (case k9N => k_asm); (case k9S => assumption); (case k9hl => first | is_list | exact News.isList (by k_asm) (by k_mem)); (case k9hi => l_ints); (case k9hlen => walk_at "m_rm"); (case k9h0 => assumption); (case k9hA => rfl); (case k9hroom => walk_at "m_rm"); k_whole); walk_at "t_key_call_61") | (k_here; (with_unfolding_all show wpAny _ _ (call (Value.ref 172) [Value.ref _]) _ _ _); (refine' reading_call ?k9S ?k9F ?k9N ?k9hA ?k9hroom ?_; (case k9F => k_asm); (case k9S => assumption); (case k9N => k_asm); (case k9hA => rfl); (case k9hroom => walk_at "m_rm"); k_whole); walk_at "t_reading_call_172")) | ((with_reducible show wpAny _ _ (exec (Stmt.For _ _ _ _ _) _) _ _ _); with_reducible (k_here; (with_unfolding_all (refine' For_mine ?_ ?k9hs; (case k9hs => intro _; rfl))))) | ((with_reducible show wpAny _ _ (exec (Stmt.While _ _ _ _) _) _ _ _); with_reducible (with_reducible refine Stop.go ?_))) | walk1 | (dsimp only; walk1) | (leave1; (try dsimp only)))
        rename Fr _ _ _ _ => F6
        rename News _ _ _ _ => N6
        refine ForStep.mk F6 (News.sub N6 (fun p hp => .tail _ (.tail _ (.tail _ hp)))) ?_ ⟨m1, m4, oE2, ?_, rfl⟩
        · exact hne
        · have t1 : es.take (i + 1) = es.take i ++ [e] := by rw [List.take_add_one, he]; rfl
          have t2 : acc.take (i + 1) = acc.take i ++ [.ref a] := by rw [List.take_add_one, show acc[i]? = some (Value.ref a) from by simpa using hi']; rfl
          rw [t1, t2, storeAll_snoc _ _ _ _ _ (by simp [hla])]
          exact hE5
      · rintro h tk m₁ nw F₁ N₁ ⟨m1, m4, oE', hE', rfl⟩
        dsimp only at F₁ N₁ ⊢
        rw [List.take_length, List.take_of_length_le (by omega)] at hE'
        repeat' ((fail_if_success (with_reducible show wpAny _ _ (call (Value.builtin _) [Value.ref _]) _ _ _)); (first | (k_unfold; (try dsimp only)) | (k_end; kc_close) | (first | ((with_reducible show wpAny _ _ (call (Value.ref _) _ _) _ _ _); first | ((with_unfolding_all show wpAny _ _ (call (Value.ref 169) [Value.ref _]) _ _ _); with_reducible refine Stop.go ?_) | (k_here; (with_unfolding_all show wpAny _ _ (call (Value.ref 61) [Value.ref _]) _ _ _); (refine' key_call ?k9S ?k9F ?k9N ?k9hl ?k9hi ?k9hlen ?k9h0 ?k9hA ?k9hroom ?_; (case k9F => k_asm); (case k9N => k_asm); (case k9S => assumption); (case k9hl => first | is_list | exact News.isList (by k_asm) (by k_mem)); (case k9hi => l_ints); (case k9hlen => walk_at "m_rm"); (case k9h0 => assumption); (case k9hA => rfl); (case k9hroom => walk_at "m_rm"); k_whole); walk_at "t_key_call_61") | (k_here; (with_unfolding_all show wpAny _ _ (call (Value.ref 172) [Value.ref _]) _ _ _); (refine' reading_call ?k9S ?k9F ?k9N ?k9hA ?k9hroom ?_; (case k9F => k_asm); (case k9S => assumption); (case k9N => k_asm); (case k9hA => rfl); (case k9hroom => walk_at "m_rm"); k_whole); walk_at "t_reading_call_172")) | ((with_reducible show wpAny _ _ (exec (Stmt.For _ _ _ _ _) _) _ _ _); with_reducible (k_here; (with_unfolding_all (refine' For_mine ?_ ?k9hs; (case k9hs => intro _; rfl))))) | ((with_reducible show wpAny _ _ (exec (Stmt.While _ _ _ _) _) _ _ _); with_reducible (with_reducible refine Stop.go ?_))) | walk1 | (dsimp only; walk1) | (leave1; (try dsimp only))))
        refine PyProof.Rows.len_list (N₁.isList (by k_mem)) (by simp; omega) ?_
        repeat' (first | (k_unfold; (try dsimp only)) | (k_end; kc_close) | (first | ((with_reducible show wpAny _ _ (call (Value.ref _) _ _) _ _ _); first | ((with_unfolding_all show wpAny _ _ (call (Value.ref 169) [Value.ref _]) _ _ _); with_reducible refine Stop.go ?_) | (k_here; (with_unfolding_all show wpAny _ _ (call (Value.ref 61) [Value.ref _]) _ _ _); (refine' key_call ?k9S ?k9F ?k9N ?k9hl ?k9hi ?k9hlen ?k9h0 ?k9hA ?k9hroom ?_; (case k9F => k_asm); (case k9N => k_asm); (case k9S => assumption); (case k9hl => first | is_list | exact News.isList (by k_asm) (by k_mem)); (case k9hi => l_ints); (case k9hlen => walk_at "m_rm"); (case k9h0 => assumption); (case k9hA => rfl); (case k9hroom => walk_at "m_rm"); k_whole); walk_at "t_key_call_61") | (k_here; (with_unfolding_all show wpAny _ _ (call (Value.ref 172) [Value.ref _]) _ _ _); (refine' reading_call ?k9S ?k9F ?k9N ?k9hA ?k9hroom ?_; (case k9F => k_asm); (case k9S => assumption); (case k9N => k_asm); (case k9hA => rfl); (case k9hroom => walk_at "m_rm"); k_whole); walk_at "t_reading_call_172")) | ((with_reducible show wpAny _ _ (exec (Stmt.For _ _ _ _ _) _) _ _ _); with_reducible (k_here; (with_unfolding_all (refine' For_mine ?_ ?k9hs; (case k9hs => intro _; rfl))))) | ((with_reducible show wpAny _ _ (exec (Stmt.While _ _ _ _) _) _ _ _); with_reducible (with_reducible refine Stop.go ?_))) | walk1 | (dsimp only; walk1) | (leave1; (try dsimp only)))
        rename Fr _ _ _ _ => F6
        rename News _ _ _ _ => N6
        have hsz : (List.toArray acc).size = es.length := by simpa using hla
        rw [hsz]
        refine ret es hW _ _ _ oE' acc ex (kp_sub (kp_hide2 F6) ?_) (N6.get (.head _)) hE' hab (fun q hq => ⟨N6.get (mem7 hq), hexf q hq⟩)
        intro z hz hn o hq
        simp only [List.cons_append, List.nil_append, List.mem_cons, List.not_mem_nil, or_false] at hz hn
        rcases hz with rfl | rfl | rfl | rfl
        · rw [hl] at hq; cases hq; exact N6.get (by k_mem)
        · exact absurd rfl hn
        · rw [ht] at hq; cases hq; exact N6.get (by k_mem)
        · rw [htd] at hq; cases hq; exact N6.get (by k_mem)
end

section
local macro_rules | `(tactic| kmk_nums) => `(tactic| exact kmk_run (by l_ints) (by kmk_sign) (by kmk_sign))
noncomputable def QRes (cs : List Int) (at_ : Nat) (h₀ : Heap) (v : Value) (h : Heap) : Prop :=
  match quotedAt (cs.drop at_) with
  | none => v = .none
  | some (f, r) => ∃ t fa k, v = .ref t ∧ h₀.get? t = none ∧ h₀.get? fa = none ∧ h.get? t = some (tupOf [.ref fa, .int ((cs.length - r.length : Nat) : Int) k] 0) ∧ IntsAt h fa f

inductive QuotI (s : Shared) (l : Addr) (at_ : Nat) (cs : List Int) (k : Nat) (s' : Shared) : Prop
  | mk (h' : Heap) (tk : Nat) (m : Str → Option Value) (acc : List Int) (fa : Addr) (accv : List Value) (na : Nat) (p : Nat) (tp : Tok) (e0 : s' = { s with heap := h', toks := tk }) (e1 : Fr (hideAll s.heap []) s.heap.objs.size h' m) (e2 : m (Str.ofString "_law_codes") = some (.ref l)) (e3 : m (Str.ofString "_law_at") = some (.int ((p : Nat) : Int) tp)) (e4 : m (Str.ofString "_law_found") = some (.ref fa)) (e5 : News (hideAll s.heap []) s.heap.objs.size h' [(fa, listOf (List.toArray accv) na)]) (e6 : IntsAre accv acc) (e7 : p ≤ cs.length) (e8 : acc.length ≤ p) (e9 : k = cs.length - p) (e10 : QInv (quotedAt (cs.drop at_)) cs p acc) : QuotI s l at_ cs k s'
theorem q_spec {w : World} {mean mg mb} {b : Heap} {s : Shared} {dp un : Nat} {fr : Option (List Env)} {gd : Option (List Code)} {R : Result → Shared → Prop} {l : Addr} {at_ : Nat} {t1 : Tok} {vs : List Value} {cs : List Int}
    (S : Sx w mean mg mb b) (hb : b.StaysIn s.heap)
    (hl : s.heap.IsList l vs.toArray) (hi : IntsAre vs cs)
    (hlen : cs.length < 10000) (hroom : dp < recursionLimit) (hu : un ≤ 9000) (hat : at_ ≤ cs.length)
    (ret : ∀ v h' tk, Kp [] s.heap h' → QRes cs at_ s.heap v h' → R (.ok (.ret v)) { s with heap := h', toks := tk }) :
    codeAny (model PySem.Challenge.rw_on0064_01.row.prog w) ⟨none, dp, fr, gd, un⟩ (.call (.ref 226) ⟨[.ref l, .int at_ t1], []⟩) R s := by
  (have KX9 : Fill Mine.hd.heap_39 PySem.Challenge.rw_on0064_01 := (by k_fill; exact trivial); clear KX9)
  refine' enter (binds := [(Str.ofString "_law_codes", .ref l), (Str.ofString "_law_at", .int at_ t1)]) S hb [] (by simp) ?ho ?hcd hroom ?hbind ?hloc ?_ ?hcell ?c2 ?c3 ?c4
  ((case ho => ((conv => lhs; whnf); (first | (conv in (occs := *) fd9 _ => all_goals whnf) | (conv in (occs := *) md9 _ _ => all_goals whnf)); (try dsimp only); exact rfl)); (case hcd => k_is); (case hbind => exact BindsTo.of_eq rfl); (case hloc => exact locs rfl); (case hcell => decide); (case c2 => exact rfl); (case c3 => exact rfl); (case c4 => exact rfl))
  intro g L h₁ S' hg hL F K1 env9 Q9 E9
  subst hg hL
  have X := S'.X
  have T := S'.T
  have N : News (hideAll s.heap []) s.heap.objs.size h₁ [] := News.nil
  have hB : (hideAll s.heap []).IsList l vs.toArray := isList_hide hl (by simp)
  repeat' (first | (k_unfold; (try dsimp only)) | (k_end; kc_close) | (first | ((with_reducible show wpAny _ _ (eval (Expr.IfExp _ _ _ _) _) _ _ _); with_reducible ((with_reducible show wpAny _ _ (eval (Expr.IfExp (Expr.Compare (Expr.Subscript _ _ _) _ _ _) _ _ _) _) _ _ _); with_reducible refine Stop.go ?_)) | ((with_reducible show wpAny _ _ (compareOp CmpOp.NotIn (Value.ref _) (Value.ref _)) _ _ _); k_here; (refine' notIn_lists3 ?k9k1 ?k9k2 ?k9k3 ?k9k4 ?k9k5 ?k9k6 ?k9k7 ?_; (case k9k1 => is_list); (case k9k2 => l_ints); (case k9k3 => exact News.get (by k_asm) (by k_mem)); (case k9k4 => exact News.get (by k_asm) (by k_mem)); (case k9k5 => exact News.get (by k_asm) (by k_mem)); (case k9k6 => exact News.get (by k_asm) (by k_mem)); (case k9k7 => units_room); k_whole)) | ((with_reducible show wpAny _ _ (exec (Stmt.While _ _ _ _) _) _ _ _); with_reducible (with_reducible refine Stop.go ?_))) | walk1 | (dsimp only; walk1) | (leave1; (try dsimp only)))
  · refine Stop.go (while_rule (QuotI s l at_ cs) (cs.length - (at_ + 1)) ?_ ?_)
    · rename (List.take _ _ = [(34 : Int)]) => hs
      rw [slice1] at hs
      obtain ⟨e1, e2⟩ := quotedAt_some hs
      rename Fr _ _ _ _ => F'
      rename News _ _ _ _ => N'
      refine ⟨_, _, _, [], _, [], 0, at_ + 1, _, rfl, F', rfl, rfl, rfl, News.sub N' (by k_allIn), .nil, by omega, by simp, rfl, ?_⟩
      rw [e1]; exact QInv.start _ _
    · rintro k s' ⟨h', tk, m, acc, fa, accv, na, p, tp, rfl, F2, m1, m2, m3, N2, ha, hp, hacc, rfl, hI⟩
      repeat' (first | (k_unfold; (try dsimp only)) | (k_end; kc_close) | (first | ((with_reducible show wpAny _ _ (eval (Expr.IfExp _ _ _ _) _) _ _ _); with_reducible ((with_reducible show wpAny _ _ (eval (Expr.IfExp (Expr.Compare (Expr.Subscript _ _ _) _ _ _) _ _ _) _) _ _ _); with_reducible refine Stop.go ?_)) | ((with_reducible show wpAny _ _ (compareOp CmpOp.NotIn (Value.ref _) (Value.ref _)) _ _ _); k_here; (refine' notIn_lists3 ?k9k1 ?k9k2 ?k9k3 ?k9k4 ?k9k5 ?k9k6 ?k9k7 ?_; (case k9k1 => is_list); (case k9k2 => l_ints); (case k9k3 => exact News.get (by k_asm) (by k_mem)); (case k9k4 => exact News.get (by k_asm) (by k_mem)); (case k9k5 => exact News.get (by k_asm) (by k_mem)); (case k9k6 => exact News.get (by k_asm) (by k_mem)); (case k9k7 => units_room); k_whole)) | ((with_reducible show wpAny _ _ (exec (Stmt.While _ _ _ _) _) _ _ _); with_reducible (with_reducible refine Stop.go ?_))) | walk1 | (dsimp only; walk1) | (leave1; (try dsimp only)))
      · -- a line's end
        rename (List.getD _ _ _ = 10) => h10
        rw [toNat_cast] at h10
        rename Fr _ _ _ _ => F'
        exact ret _ _ _ (kp_of F') (by unfold QRes; rw [hI.line (by omega) h10])
      · -- an escape that is one
        rename (_ = [(34 : Int)] ∨ _) => hs
        rename (List.getD _ _ _ = 92) => h92
        rw [slice2, take1_at, take1_at, take1_at] at hs
        rw [toNat_cast] at h92
        have hq : p + 1 < cs.length := hs.elim And.left (Or.rec And.left And.left)
        have hd : cs.getD (p + 1) 0 = 34 ∨ cs.getD (p + 1) 0 = 92 ∨ cs.getD (p + 1) 0 = 110 := hs.imp And.right (Or.imp And.right And.right)
        clear hs
        refine Stop.go (wpAny_IfExp ?_)
        repeat' (first | (k_unfold; (try dsimp only)) | (k_end; kc_close) | (first | ((with_reducible show wpAny _ _ (eval (Expr.IfExp _ _ _ _) _) _ _ _); with_reducible ((with_reducible show wpAny _ _ (eval (Expr.IfExp (Expr.Compare (Expr.Subscript _ _ _) _ _ _) _ _ _) _) _ _ _); with_reducible refine Stop.go ?_)) | ((with_reducible show wpAny _ _ (compareOp CmpOp.NotIn (Value.ref _) (Value.ref _)) _ _ _); k_here; (refine' notIn_lists3 ?k9k1 ?k9k2 ?k9k3 ?k9k4 ?k9k5 ?k9k6 ?k9k7 ?_; (case k9k1 => is_list); (case k9k2 => l_ints); (case k9k3 => exact News.get (by k_asm) (by k_mem)); (case k9k4 => exact News.get (by k_asm) (by k_mem)); (case k9k5 => exact News.get (by k_asm) (by k_mem)); (case k9k6 => exact News.get (by k_asm) (by k_mem)); (case k9k7 => units_room); k_whole)) | ((with_reducible show wpAny _ _ (exec (Stmt.While _ _ _ _) _) _ _ _); with_reducible (with_reducible refine Stop.go ?_))) | walk1 | (dsimp only; walk1) | (leave1; (try dsimp only)))
        all_goals (
          rename (News _ _ _ ((_, _) :: (_, _) :: _)) => N'
          rename Fr _ _ _ _ => F')
        · rename (List.getD _ _ _ = 110) => h110
          rw [toNat_cast1] at h110
          have hJ := hI.esc (by omega) h92 hq hd
          rw [if_pos h110] at hJ
          refine ⟨cs.length - (p + 2), subS2 hq, _, _, _, acc ++ [10], fa, accv ++ [.int 10 _], _, p + 2, _, rfl, F', by first | exact rfl | exact m1, rfl, by first | exact rfl | exact m3, snocNews (News.sub N' (by k_allIn)), ksk_snoc ha, by omega, by simp; omega, rfl, hJ⟩
        · rename (List.getD _ _ _ ≠ 110) => h110
          rw [toNat_cast1] at h110
          have hJ := hI.esc (by omega) h92 hq hd
          rw [if_neg h110] at hJ
          refine ⟨cs.length - (p + 2), subS2 hq, _, _, _, acc ++ [cs.getD (p + 1) 0], fa, accv ++ [.int (cs.getD (p + 1) 0) _], _, p + 2, _, rfl, F', by first | exact rfl | exact m1, rfl, by first | exact rfl | exact m3, snocNews (News.sub N' (by k_allIn)), ksk_snoc ha, by omega, by simp; omega, rfl, hJ⟩
      · -- an escape that is none
        rename (¬ (_ = [(34 : Int)] ∨ _)) => hs
        rename (List.getD _ _ _ = 92) => h92
        rw [slice2, take1_at, take1_at, take1_at] at hs
        rw [toNat_cast] at h92
        rename Fr _ _ _ _ => F'
        refine ret _ _ _ (kp_of F') ?_
        unfold QRes
        by_cases hq : p + 1 < cs.length
        · rw [hI.escNo (by omega) h92 hq (fun q => hs (q.imp (And.intro hq) (Or.imp (And.intro hq) (And.intro hq))))]
        · rw [hI.escEnd (by omega) h92 (Nat.le_of_not_lt hq)]
      · -- a plain sign
        rename Fr _ _ _ _ => F'
        rename News _ _ _ _ => N'
        rename (List.getD _ _ _ ≠ 34) => h34
        rename (List.getD _ _ _ ≠ 10) => h10
        rename (List.getD _ _ _ ≠ 92) => h92
        rw [toNat_cast] at h34 h10 h92
        have hJ := hI.plain (by omega) h34 h10 h92
        refine ⟨cs.length - (p + 1), subS1 (by omega), _, _, _, acc ++ [cs.getD p 0], fa, accv ++ [.int (cs.getD p 0) _], _, p + 1, _, rfl, F', by first | exact rfl | exact m1, rfl, by first | exact rfl | exact m3, snocNews (News.sub N' (by k_allIn)), ksk_snoc ha, by omega, by simp; omega, rfl, hJ⟩
      · -- the closing quote
        rename Fr _ _ _ _ => F'
        rename News _ _ _ _ => N'
        rename (List.getD _ _ _ = 34) => h34
        rw [toNat_cast] at h34
        have hW := hI.close (by omega) (by omega)
        refine ret _ _ _ (kp_of F') ?_
        unfold QRes
        rw [hW]
        (try dsimp only)
        have hT := N'.get (.head _)
        rw [subBl1 (show p < cs.length by omega)] at hT
        exact ⟨_, fa, _, rfl, fresh_of N' (.head _) (by simp), fresh_of N' (.tail _ (.head _)) (by simp), hT, _, _, N'.get (.tail _ (.head _)), ha⟩
      · rename Fr _ _ _ _ => F'
        refine ret _ _ _ (kp_of F') ?_
        unfold QRes
        rw [hI.stop (by omega)]
  · rename Fr _ _ _ _ => F'
    rename (¬ _ = _) => hs
    rw [slice1] at hs
    exact ret _ _ _ (kp_of F') (by unfold QRes; rw [quotedAt_none hs])

theorem quotedAt_pos {cs f r : List Int} {p : Nat} (h : quotedAt (cs.drop p) = some (f, r)) : p < cs.length - r.length ∧ cs.length - r.length ≤ cs.length ∧ f.length ≤ cs.length := by
  have := quotedAt_lt h; omega
noncomputable def QAt (cs : List Int) (p : Nat) (f : List Int) (p' : Nat) : Prop := ∃ r, quotedAt (cs.drop p) = some (f, r) ∧ cs.length - r.length = p'
section
variable {w : World} {mean : ExcName → Option Value} {mg mb : Str → Option Value} {g : Heap} {s : Shared} {A : Around} {dp un tk : Nat} {fr : Option (List Env)} {gd : Option (List Code)} {m : Str → Option Value} {L l : Addr} {at_ : Int} {t1 : Tok} {vs : List Value} {cs : List Int}
  {news : List (Addr × Obj)} {E : Value → Shared → Prop} {Q : Value → Shared → Prop}
theorem q_call (S : Sx w mean mg mb g) (F : Fr g L s.heap m) (N : News g L s.heap news) (hl : s.heap.IsList l vs.toArray) (hi : IntsAre vs cs) (hlen : cs.length < 10000) (h0 : 0 ≤ at_) (hat : at_ ≤ cs.length) (hA : A = ⟨none, dp, fr, gd, un⟩) (hroom : dp < recursionLimit) (hu : un ≤ 9000)
    (k0 : quotedAt (cs.drop at_.toNat) = none → ∀ h' tk, Fr g L h' m → News g L h' news → Q .none { s with heap := h', toks := tk })
    (k1 : ∀ f pos, QAt cs at_.toNat f pos → at_ < (pos : Int) → pos ≤ cs.length → f.length ≤ cs.length → ∀ t fa k vs' n' h' tk, AllNe t news → AllNe fa news → @Ne Nat t fa → Fr g L h' m → News g L h' ((t, tupOf [.ref fa, .int ((pos : Nat) : Int) k] 0) :: (fa, listOf (List.toArray vs') n') :: news) → IntsAre vs' f → Q (.ref t) { s with heap := h', toks := tk }) :
    wpAny (model PySem.Challenge.rw_on0064_01.row.prog w) A (call (.ref 226) [.ref l, .int at_ t1]) Q E s := by
  subst hA
  obtain ⟨p, rfl⟩ := Int.eq_ofNat_of_zero_le h0
  refine wpAny_call (q_spec S F.keep hl hi hlen hroom hu (by omega) fun v h' tk K q => ?_)
  have F' := Fr.kp0 F K
  have N' := News.kp0 N K
  unfold QRes at q
  cases hq : quotedAt (cs.drop p) with
  | none => rw [hq] at q; dsimp only at q; subst q; exact k0 hq h' tk F' N'
  | some fr' =>
    obtain ⟨f, r⟩ := fr'
    rw [hq] at q
    obtain ⟨t, fa, k, rfl, n1, n2, e1, vs', n', e2, hi'⟩ := q
    have ne : ∀ {d : Addr}, s.heap.get? d = none → AllNe d news := fun hd => allNe_of fun p hp q => by
      have z := (N p hp).1
      rw [q, hd] at z; cases z
    have hpos := quotedAt_pos hq
    refine k1 f _ ⟨r, hq, rfl⟩ (by omega) (by omega) (by omega) t fa k vs' n' h' tk (ne n1) (ne n2) ?_ F' (News.add F K (News.add F K N' n2 e2) n1 e1) hi'
    rintro rfl; rw [e1] at e2; have z := congrArg Obj.cls (Option.some.inj e2); simp at z
end
end

section
theorem dig_go2 {cs : List Int} {p : Nat} (hp : p < cs.length) (h1 : 48 ≤ cs.getD p 0) (h2 : cs.getD p 0 ≤ 57) : digs (cs.drop p) = cs.getD p 0 :: digs (cs.drop (p + 1)) := by
  rw [drop_cons hp]; exact digs_cons_dig h1 h2
theorem dig_stop2 {cs : List Int} {p : Nat} (h : cs.length ≤ p ∨ ¬ (48 ≤ cs.getD p 0 ∧ cs.getD p 0 ≤ 57)) : digs (cs.drop p) = [] := by
  by_cases hp : p < cs.length
  · rw [drop_cons hp]
    rcases h with h | h
    · omega
    · exact digs_cons_not h
  · rw [drop_nil (by omega)]; rfl
noncomputable def chrS (c : Int) : Str := ⟨#[c.toNat]⟩
noncomputable def figS (ds : List Int) : Str := ⟨(ds.map Int.toNat).toArray⟩
theorem join_chr : ∀ ds : List Int, Txt.join (Str.ofString "") (ds.map chrS) = figS ds := by
  intro ds
  unfold Txt.join
  rw [StrLaws.glued_eq_join]
  induction ds with
  | nil => rfl
  | cons c r ih =>
    cases r with
    | nil => rfl
    | cons d r =>
      rw [List.map_cons, List.map_cons, join_cons_cons, ← List.map_cons, ih]
      show chrS c ++ Str.ofString "" ++ figS (d :: r) = _
      apply Str.ext'
      rw [Str.cps_append, Str.cps_append]
      unfold chrS figS
      simp [show (Str.ofString "").cps = #[] from by decide]
theorem fig_nil {ds : List Int} : (figS ds == Str.ofString "") = decide (ds = []) := by
  cases ds with
  | nil => decide
  | cons c r =>
    rw [decide_eq_false (by simp)]
    rw [Bool.eq_false_iff]
    intro h
    have h := eq_of_beq h
    have := congrArg Str.length h
    rw [show (Str.ofString "").length = 0 from by decide] at this
    simp [figS, Str.length] at this
theorem fig_zero {ds : List Int} (hd : ∀ c ∈ ds, 48 ≤ c ∧ c ≤ 57) : (figS ds != Str.ofString "0") = decide (ds ≠ [48]) := by
  by_cases h : ds = [48]
  · subst h; decide
  · rw [decide_eq_true h, bne_iff_ne]
    intro e
    have e := congrArg Str.cps e
    rw [show (Str.ofString "0").cps = #[48] from by decide] at e
    unfold figS at e
    dsimp only at e
    have e2 : ds.map Int.toNat = [48] := by
      have := congrArg Array.toList e
      simpa using this
    cases ds with
    | nil => simp at e2
    | cons c r =>
      simp only [List.map_cons, List.cons.injEq, List.map_eq_nil_iff] at e2
      obtain ⟨e3, rfl⟩ := e2
      have := hd c (.head _)
      exact h (by rw [show c = 48 by omega])
theorem fig_head {c : Int} {r : List Int} (hc : 48 ≤ c) : (Txt.item (figS (c :: r)) 0 == Str.ofString "0") = decide (c = 48) := by
  have e : Txt.item (figS (c :: r)) 0 = ⟨#[c.toNat]⟩ := by
    exact item_meets (by omega) (by simp [figS])
  rw [e]
  by_cases h : c = 48
  · subst h; decide
  · rw [decide_eq_false h, Bool.eq_false_iff]
    intro q
    have q := congrArg Str.cps (eq_of_beq q)
    rw [show (Str.ofString "0").cps = #[48] from by decide] at q
    simp at q
    omega

theorem qat_none {cs f : List Int} {at_ p1 : Nat} (h : QAt cs at_ f p1) (h1 : ¬ (p1 < cs.length ∧ cs.getD p1 0 = 32)) : entryAt cs at_ = none := by
  obtain ⟨r, q, rfl⟩ := h
  refine entryAt_2 q fun z => h1 ?_
  have := codeAt_in (cs := cs) (p := cs.length - r.length) (by omega)
  exact ⟨this.1, this.2.trans z⟩
theorem code_of {cs : List Int} {p : Nat} {c : Int} (h : p < cs.length ∧ cs.getD p 0 = c) : codeAt cs ((p : Nat) : Int) = c := by rw [codeAt_cast, if_pos h.1]; exact h.2
theorem of_code {cs : List Int} {p : Nat} {c : Int} (hc : c ≠ -1) (h : codeAt cs ((p : Nat) : Int) = c) : p < cs.length ∧ cs.getD p 0 = c := by
  have := codeAt_in (cs := cs) (p := p) (by omega)
  exact ⟨this.1, this.2.trans h⟩
section
variable {cs f ds : List Int} {at_ p1 p : Nat} (h : QAt cs at_ f p1) (h1 : p1 < cs.length ∧ cs.getD p1 0 = 32) (hdg : digs (cs.drop (p1 + 1)) = ds) (hp : p = p1 + 1 + ds.length) (hle : p ≤ cs.length)
include h h1 hdg
theorem num_bad (hb : ds = [] ∨ (ds.head? = some 48 ∧ ds ≠ [48])) : entryAt cs at_ = none := by
  obtain ⟨r, q, rfl⟩ := h
  refine entryAt_3 q (code_of h1) ?_
  rw [toNat_cast1]
  unfold numAt
  rw [hdg, if_pos]
  rcases hb with hb | ⟨hb, hb'⟩
  · exact .inl hb
  · refine .inr ⟨hb, ?_⟩
    cases ds with
    | nil => simp at hb
    | cons c r' =>
      cases r' with
      | nil => simp at hb; subst hb; exact absurd rfl hb'
      | cons _ _ => simp
include hp hle
theorem num_good (hg : ds ≠ []) (hg' : ds.head? ≠ some 48 ∨ ds = [48]) : numAt (cs.drop (p1 + 1)) = some (valD 0 ds, cs.drop p) ∧ cs.length - (cs.drop p).length = p := by
  refine ⟨?_, by rw [List.length_drop]; omega⟩
  unfold numAt
  rw [hdg, if_neg, List.drop_drop, hp]
  rintro (z | ⟨z, z'⟩)
  · exact hg z
  · rcases hg' with q | q
    · exact q z
    · subst q; simp at z'
theorem ent_bad4 (hg : ds ≠ []) (hg' : ds.head? ≠ some 48 ∨ ds = [48]) (h3 : ¬ (p < cs.length ∧ cs.getD p 0 = 32)) : entryAt cs at_ = none := by
  obtain ⟨e1, e2⟩ := num_good h h1 hdg hp hle hg hg'
  obtain ⟨r, q, rfl⟩ := h
  refine entryAt_4 q (code_of h1) (by rw [toNat_cast1]; exact e1) fun z => h3 ?_
  rw [e2] at z
  exact of_code (by omega) z
theorem ent_bad5 (hg : ds ≠ []) (hg' : ds.head? ≠ some 48 ∨ ds = [48]) (h3 : p < cs.length ∧ cs.getD p 0 = 32) (h5 : quotedAt (cs.drop (p + 1)) = none) : entryAt cs at_ = none := by
  obtain ⟨e1, e2⟩ := num_good h h1 hdg hp hle hg hg'
  obtain ⟨r, q, rfl⟩ := h
  exact entryAt_5 q (code_of h1) (by rw [toNat_cast1]; exact e1) (by rw [e2]; exact code_of h3) (by rw [e2, toNat_cast1]; exact h5)
theorem ent_end {t : List Int} {p5 : Nat} (hg : ds ≠ []) (hg' : ds.head? ≠ some 48 ∨ ds = [48]) (h3 : p < cs.length ∧ cs.getD p 0 = 32) (h5 : QAt cs (p + 1) t p5) : entryAt cs at_ = entryEnd cs f (valD 0 ds) t p5 := by
  obtain ⟨e1, e2⟩ := num_good h h1 hdg hp hle hg hg'
  obtain ⟨r, q, rfl⟩ := h
  obtain ⟨r5, q5, rfl⟩ := h5
  exact entryAt_6 q (code_of h1) (by rw [toNat_cast1]; exact e1) (by rw [e2]; exact code_of h3) (by rw [e2, toNat_cast1]; exact q5)
end
theorem take7 {cs : List Int} {p : Nat} : (cs.drop p).take 7 = [32, 101, 120, 97, 99, 116, 10] ↔ exactAt cs p = true := by
  have key : ∀ (n : Nat) (l : List Int) (q : Nat) (cs : List Int), l.length = n → (∀ c ∈ l, c ≠ -1) → ((cs.drop q).take n = l ↔ ∀ i < n, codeAt cs ((q + i : Nat) : Int) = l.getD i 0) := by
    intro n
    induction n with
    | zero => intro l q cs hl _; cases l with
      | nil => simp
      | cons _ _ => simp at hl
    | succ n ih =>
      intro l q cs hl hc
      cases l with
      | nil => simp at hl
      | cons c l =>
        have hl' : l.length = n := by simpa using hl
        by_cases hq : q < cs.length
        · rw [drop_cons hq, List.take_succ_cons, List.cons.injEq, ih l (q + 1) cs hl' (fun x hx => hc x (.tail _ hx))]
          constructor
          · rintro ⟨e1, e2⟩ i hi
            cases i with
            | zero => rw [Nat.add_zero, codeAt_cast, if_pos hq]; simpa using e1
            | succ i => have := e2 i (by omega); rw [show q + 1 + i = q + (i + 1) by omega] at this; simpa using this
          · intro e
            refine ⟨?_, fun i hi => ?_⟩
            · have := e 0 (by omega); rw [Nat.add_zero, codeAt_cast, if_pos hq] at this; simpa using this
            · have := e (i + 1) (by omega); rw [show q + 1 + i = q + (i + 1) by omega]; simpa using this
        · rw [drop_nil (by omega)]
          constructor
          · intro e; simp at e
          · intro e
            have := e 0 (by omega)
            rw [Nat.add_zero, codeAt_cast, if_neg hq] at this
            exact absurd this.symm (by simpa using hc c (.head _))
  rw [key 7 _ p cs rfl (by decide)]
  constructor
  · intro h
    have h0 := h 0 (by omega); have h1 := h 1 (by omega); have h2 := h 2 (by omega); have h3 := h 3 (by omega); have h4 := h 4 (by omega); have h5 := h 5 (by omega); have h6 := h 6 (by omega)
    simp only [List.getD_cons_zero, List.getD_cons_succ, Nat.add_zero] at h0 h1 h2 h3 h4 h5 h6
    unfold exactAt
    rw [h0, h1, h2, h3, h4, h5, h6]
    rfl
  · intro h
    unfold exactAt at h
    simp only [Bool.and_eq_true, beq_iff_eq] at h
    obtain ⟨⟨⟨⟨⟨⟨e0, e1⟩, e2⟩, e3⟩, e4⟩, e5⟩, e6⟩ := h
    intro i hi
    match i, hi with
    | 0, _ => exact e0
    | 1, _ => exact e1
    | 2, _ => exact e2
    | 3, _ => exact e3
    | 4, _ => exact e4
    | 5, _ => exact e5
    | 6, _ => exact e6
theorem digs_slice {cs : List Int} {b p : Nat} (h : p = b + (digs (cs.drop b)).length) (hp : p ≤ cs.length) : List.take (min ((p : Int)).toNat cs.length - ((b : Int)).toNat) (List.drop ((b : Int)).toNat cs) = digs (cs.drop b) := by
  rw [toNat_cast, toNat_cast, show min p cs.length - b = (digs (cs.drop b)).length by omega]
  unfold digs
  exact (List.prefix_iff_eq_take.mp (List.takeWhile_prefix _)).symm

noncomputable def LRes (cs : List Int) (at_ : Nat) (h₀ : Heap) (v : Value) (h : Heap) : Prop :=
  match entryAt cs at_ with
  | none => v = .none
  | some ((w, u, t, e), p') => ∃ tt te fw ft tu k vw nw vt nt, v = .ref tt ∧ (h₀.get? tt = none ∧ h₀.get? te = none ∧ h₀.get? fw = none ∧ h₀.get? ft = none) ∧ h.get? tt = some (tupOf [.ref te, .int ((p' : Nat) : Int) k] 0) ∧ h.get? te = some (tupOf [.ref fw, .int u tu, .ref ft, .bool e] 0) ∧ h.get? fw = some (listOf (List.toArray vw) nw) ∧ IntsAre vw w ∧ h.get? ft = some (listOf (List.toArray vt) nt) ∧ IntsAre vt t
theorem LRes.none {cs : List Int} {at_ : Nat} {h₀ h : Heap} (e : entryAt cs at_ = none) : LRes cs at_ h₀ .none h := by unfold LRes; rw [e]
theorem numeral {ds : List Int} (hd : ∀ c ∈ ds, 48 ≤ c ∧ c ≤ 57) (hne : ds ≠ []) (hl : ds.length ≤ 600) : PySem.intText? (figS ds) = some (valD 0 ds) := by
  have e : (figS ds).cps.toList = ds.map Int.toNat := by simp [figS]
  have ha : PySem.NumText.AllDigits (figS ds).cps.toList := by
    rw [e]
    intro c hc
    obtain ⟨x, hx, rfl⟩ := List.mem_map.mp hc
    have := hd x hx
    omega
  rw [PySem.intText_digits ha (by rw [e]; simpa using hne) (by show (figS ds).cps.size ≤ 4300; simp [figS]; omega), e]
  congr 1
  have key : ∀ (l : List Int) (a : Nat), (∀ c ∈ l, 48 ≤ c ∧ c ≤ 57) → (((l.map Int.toNat).foldl (fun acc c => acc * 10 + (c - 48)) a : Nat) : Int) = valD (a : Int) l := by
    intro l
    induction l with
    | nil => intro a _; rfl
    | cons c r ih =>
      intro a h
      have hc := h c (.head _)
      rw [List.map_cons, List.foldl_cons, ih _ (fun x hx => h x (.tail _ hx))]
      show valD _ r = valD (10 * (a : Int) + c - 48) r
      congr 1
      omega
  exact key ds 0 hd
theorem exact_codes2 : codesOf (Str.ofString " exact\n") = [32, 101, 120, 97, 99, 116, 10] := by decide +kernel
theorem slice7 {cs : List Int} {p : Nat} : List.take (min ((p : Int) + 7).toNat cs.length - ((p : Int)).toNat) (List.drop ((p : Int)).toNat cs) = (cs.drop p).take 7 := by
  have e1 : ((p : Int) + 7).toNat = p + 7 := by omega
  rw [e1, toNat_cast]
  by_cases h : p + 7 ≤ cs.length
  · rw [show min (p + 7) cs.length - p = 7 by omega]
  · rw [List.take_of_length_le (by rw [List.length_drop]; omega), List.take_of_length_le (by rw [List.length_drop]; omega)]
theorem end_exact {cs w t : List Int} {u : Int} {q : Nat} (h : (cs.drop q).take 7 = [32, 101, 120, 97, 99, 116, 10]) : entryEnd cs w u t q = some ((w, u, t, true), q + 7) := by
  have h1 := take7.mp h
  unfold entryEnd
  have : codeAt cs ((q : Nat) : Int) = 32 := by
    unfold exactAt at h1
    simp only [Bool.and_eq_true, beq_iff_eq] at h1
    exact h1.1.1.1.1.1.1
  rw [if_pos this, if_pos h1]
theorem take17 {cs : List Int} {q : Nat} {c : Int} : List.take 1 ((cs.drop q).take 7) = [c] ↔ q < cs.length ∧ cs.getD q 0 = c := by
  rw [List.take_take, show min 1 7 = 1 from rfl, take1_at]
theorem end_plain {cs w t : List Int} {u : Int} {q : Nat} (h' : List.take 1 ((cs.drop q).take 7) = [10]) : entryEnd cs w u t q = some ((w, u, t, false), q + 1) := by
  have := code_of (take17.mp h')
  unfold entryEnd
  rw [if_neg (by omega), if_pos this]
theorem end_none {cs w t : List Int} {u : Int} {q : Nat} (h : ¬ (cs.drop q).take 7 = [32, 101, 120, 97, 99, 116, 10]) (h' : ¬ List.take 1 ((cs.drop q).take 7) = [10]) : entryEnd cs w u t q = none := by
  unfold entryEnd
  split
  · rw [if_neg fun z => h (take7.mpr z)]
  · rw [if_neg fun z => h' (take17.mpr (of_code (by omega) z))]
end

local macro_rules | `(tactic| walk_at "t_q_call_226") => `(tactic| ((focus intro qn h' tk F' N'; (try k_sweep)); rotate_left; (focus intro qf qr qq ql1 ql2 ql3 qt qa qk vs' n' h' tk ne1 ne2 ne3 F' N' hI; (try k_sweep); (try simp only [AllNe, and_true] at ne1 ne2)); rotate_left))
section
local macro_rules | `(tactic| kmk_nums) => `(tactic| exact kmk_run (by l_ints) (by kmk_sign) (by kmk_sign))
theorem if_join {prog : Program} {w : World} {A : Around} {env : Env} {s : Shared} {Q : Flow → Shared → Prop} {E : Value → Shared → Prop} {test : Expr} {body : List Stmt} {pos : Pos} (P : Shared → Prop)
    (h : wpAny (model prog w) A (isTrue test env (eval test env)) (fun b s₂ => if b = true then wpAny (model prog w) A (execs body env) Q E s₂ else Stop (P s₂)) E s)
    (k : ∀ s₂, P s₂ → Q .next s₂) : wpAny (model prog w) A (exec (.If test body [] pos) env) Q E s := by
  refine wpAny_If (wpAny_mono h (fun b s₂ hb => ?_) fun _ _ e => e)
  cases b with
  | true => simpa using hb
  | false =>
    have hb' : Stop (P s₂) := by simpa using hb
    exact wpAny_execs_nil (k _ hb')
inductive LeI (s : Shared) (l ta fa : Addr) (k1 : Tok) (vs1 : List Value) (n1 p1 : Nat) (cs : List Int) (k : Nat) (s' : Shared) : Prop
  | mk (h' : Heap) (tk : Nat) (m : Str → Option Value) (acc : List Int) (p : Nat) (tp tb : Tok) (e0 : s' = { s with heap := h', toks := tk }) (e1 : Fr (hideAll s.heap []) s.heap.objs.size h' m) (e2 : m (Str.ofString "_law_codes") = some (.ref l)) (e3 : m (Str.ofString "_law_word") = some (.ref ta)) (e4 : m (Str.ofString "_law_begin") = some (.int ((p1 + 1 : Nat) : Int) tb)) (e5 : m (Str.ofString "_law_stop") = some (.int ((p : Nat) : Int) tp))
    (e6 : News (hideAll s.heap []) s.heap.objs.size h' [(ta, tupOf [.ref fa, .int ((p1 : Nat) : Int) k1] 0), (fa, listOf (List.toArray vs1) n1)]) (e7 : p ≤ cs.length) (e8 : p = p1 + 1 + acc.length) (e9 : k = cs.length - p) (e10 : digs (cs.drop (p1 + 1)) = acc ++ digs (cs.drop p)) : LeI s l ta fa k1 vs1 n1 p1 cs k s'
inductive LeO (s : Shared) (l ta fa : Addr) (k1 : Tok) (vs1 : List Value) (n1 p1 : Nat) (cs : List Int) (s' : Shared) : Prop
  | mk (h' : Heap) (tk : Nat) (m : Str → Option Value) (p : Nat) (tp tb : Tok) (e0 : s' = { s with heap := h', toks := tk }) (e1 : Fr (hideAll s.heap []) s.heap.objs.size h' m) (e2 : m (Str.ofString "_law_codes") = some (.ref l)) (e3 : m (Str.ofString "_law_word") = some (.ref ta)) (e4 : m (Str.ofString "_law_begin") = some (.int ((p1 + 1 : Nat) : Int) tb)) (e5 : m (Str.ofString "_law_stop") = some (.int ((p : Nat) : Int) tp))
    (e6 : News (hideAll s.heap []) s.heap.objs.size h' [(ta, tupOf [.ref fa, .int ((p1 : Nat) : Int) k1] 0), (fa, listOf (List.toArray vs1) n1)]) (e7 : p ≤ cs.length) (e8 : p = p1 + 1 + (digs (cs.drop (p1 + 1))).length) : LeO s l ta fa k1 vs1 n1 p1 cs s'
inductive LeJ (s : Shared) (l ta fa : Addr) (k1 tp : Tok) (vs1 : List Value) (n1 p1 p : Nat) (cs ds : List Int) (s' : Shared) : Prop
  | mk (h' : Heap) (tk : Nat) (m : Str → Option Value) (tf : Tok) (e0 : s' = { s with heap := h', toks := tk }) (e1 : Fr (hideAll s.heap []) s.heap.objs.size h' m) (e2 : m (Str.ofString "_law_codes") = some (.ref l)) (e3 : m (Str.ofString "_law_word") = some (.ref ta)) (e4 : m (Str.ofString "_law_figures") = some (.str (figS ds) tf)) (e5 : m (Str.ofString "_law_stop") = some (.int ((p : Nat) : Int) tp))
    (e6 : News (hideAll s.heap []) s.heap.objs.size h' [(ta, tupOf [.ref fa, .int ((p1 : Nat) : Int) k1] 0), (fa, listOf (List.toArray vs1) n1)]) (e7 : ds ≠ []) (e8 : ds.head? ≠ some 48 ∨ ds = [48]) (e9 : p < cs.length ∧ cs.getD p 0 = 32) : LeJ s l ta fa k1 tp vs1 n1 p1 p cs ds s'
set_option maxHeartbeats 0 in
theorem lentry_spec {w : World} {mean mg mb} {b : Heap} {s : Shared} {dp un : Nat} {fr : Option (List Env)} {gd : Option (List Code)} {R : Result → Shared → Prop} {l : Addr} {at_ : Nat} {t1 : Tok} {vs : List Value} {cs : List Int}
    (S : Sx w mean mg mb b) (hb : b.StaysIn s.heap)
    (hl : s.heap.IsList l vs.toArray) (hi : IntsAre vs cs)
    (hlen : cs.length < 500) (hroom : dp + 20 < recursionLimit) (hu : un ≤ 8900) (hat : at_ ≤ cs.length) (hcs : ∀ c ∈ cs, 0 ≤ c ∧ c < 1000000)
    (ret : ∀ v h' tk, Kp [] s.heap h' → LRes cs at_ s.heap v h' → R (.ok (.ret v)) { s with heap := h', toks := tk }) :
    codeAny (model PySem.Challenge.rw_on0064_01.row.prog w) ⟨none, dp, fr, gd, un⟩ (.call (.ref 231) ⟨[.ref l, .int at_ t1], []⟩) R s := by
  (have KX9 : Fill Mine.hd.heap_39 PySem.Challenge.rw_on0064_01 := (by k_fill; exact trivial); clear KX9)
  refine' enter (binds := [(Str.ofString "_law_codes", .ref l), (Str.ofString "_law_at", .int at_ t1)]) S hb [] (by simp) ?ho ?hcd (by show dp < _; omega) ?hbind ?hloc ?_ ?hcell ?c2 ?c3 ?c4
  ((case ho => ((conv => lhs; whnf); (first | (conv in (occs := *) fd9 _ => all_goals whnf) | (conv in (occs := *) md9 _ _ => all_goals whnf)); (try dsimp only); exact rfl)); (case hcd => k_is); (case hbind => exact BindsTo.of_eq rfl); (case hloc => exact locs rfl); (case hcell => decide); (case c2 => exact rfl); (case c3 => exact rfl); (case c4 => exact rfl))
  intro g L h₁ S' hg hL F K1 env9 Q9 E9
  subst hg hL
  have X := S'.X
  have T := S'.T
  have N : News (hideAll s.heap []) s.heap.objs.size h₁ [] := News.nil
  have hB : (hideAll s.heap []).IsList l vs.toArray := isList_hide hl (by simp)
  have hvl := hi.length
  repeat' (first | (k_unfold; (try dsimp only)) | (k_end; kc_close) | (first | ((with_reducible show wpAny _ _ (eval (Expr.ListComp _ _ _ _) _) _ _ _); with_reducible (with_reducible refine Stop.go ?_)) | ((with_reducible show wpAny _ _ (exec (Stmt.If _ _ _ _) _) _ _ _); with_reducible ((with_reducible show wpAny _ _ (exec (Stmt.If (Expr.BoolOp _ (_ :: _ :: _ :: []) _) _ _ _) _) _ _ _); with_reducible refine Stop.go ?_)) | ((with_reducible show wpAny _ _ (call (Value.ref _) _ _) _ _ _); k_here; (with_unfolding_all show wpAny _ _ (call (Value.ref 226) [Value.ref _, Value.int _ _]) _ _ _); (refine' q_call ?k9S ?k9F ?k9N ?k9hl ?k9hi ?k9hlen ?k9h0 ?k9hat ?k9hA ?k9hroom ?k9hu ?_ ?_; (case k9F => k_asm); (case k9N => k_asm); (case k9S => assumption); (case k9hl => is_list); (case k9hi => l_ints); (case k9hlen => walk_at "m_rm"); (case k9h0 => first | assumption | omega); (case k9hat => first | assumption | omega); (case k9hA => rfl); (case k9hroom => walk_at "m_rm"); (case k9hu => walk_at "m_rm")); walk_at "t_q_call_226") | ((with_reducible show wpAny _ _ (exec (Stmt.While _ _ _ _) _) _ _ _); with_reducible (with_reducible refine Stop.go ?_))) | walk1 | (dsimp only; walk1) | (leave1; (try dsimp only)))
  · rename Fr _ _ _ _ => F9
    exact ret _ _ _ (kp_of F9) (.none (entryAt_1 (by assumption)))
  · rename_i f p1 hq1 hlt1 hle1 hlf1 ta fa k1 vs1 n1 _ _ _ _ ne3 hI1 _ _ _ _ _ _ _ _ _ _ _ _ _ h32 _ _ _ _ _ _ F1 N1
    rw [slice1, take1_at] at h32
    have N2 := News.sub (news' := [(ta, tupOf [.ref fa, .int ((p1 : Nat) : Int) k1] 0), (fa, listOf (List.toArray vs1) n1)]) N1 (by k_allIn)
    clear N1
    refine Stop.go (while_rule2 (LeI s l ta fa k1 vs1 n1 p1 cs) (fun s' => Stop (LeO s l ta fa k1 vs1 n1 p1 cs s')) (cs.length - (p1 + 1)) ?_ ?_ ?_)
    · exact ⟨_, _, _, [], p1 + 1, _, _, rfl, F1, rfl, rfl, rfl, rfl, N2, by omega, by simp, rfl, by simp⟩
    · rintro k s' ⟨h', tk, m, acc, p, tp, tb, rfl, F2, m1, m2, m3, m4, N2, hp, hacc, rfl, hI⟩
      have out : digs (cs.drop p) = [] → p = p1 + 1 + (digs (cs.drop (p1 + 1))).length := fun q => by rw [hI, q, List.append_nil]; exact hacc
      repeat' (first | (k_unfold; (try dsimp only)) | (k_end; kc_close) | (first | ((with_reducible show wpAny _ _ (eval (Expr.ListComp _ _ _ _) _) _ _ _); with_reducible (with_reducible refine Stop.go ?_)) | ((with_reducible show wpAny _ _ (exec (Stmt.If _ _ _ _) _) _ _ _); with_reducible ((with_reducible show wpAny _ _ (exec (Stmt.If (Expr.BoolOp _ (_ :: _ :: _ :: []) _) _ _ _) _) _ _ _); with_reducible refine Stop.go ?_)) | ((with_reducible show wpAny _ _ (call (Value.ref _) _ _) _ _ _); k_here; (with_unfolding_all show wpAny _ _ (call (Value.ref 226) [Value.ref _, Value.int _ _]) _ _ _); (refine' q_call ?k9S ?k9F ?k9N ?k9hl ?k9hi ?k9hlen ?k9h0 ?k9hat ?k9hA ?k9hroom ?k9hu ?_ ?_; (case k9F => k_asm); (case k9N => k_asm); (case k9S => assumption); (case k9hl => is_list); (case k9hi => l_ints); (case k9hlen => walk_at "m_rm"); (case k9h0 => first | assumption | omega); (case k9hat => first | assumption | omega); (case k9hA => rfl); (case k9hroom => walk_at "m_rm"); (case k9hu => walk_at "m_rm")); walk_at "t_q_call_226") | ((with_reducible show wpAny _ _ (exec (Stmt.While _ _ _ _) _) _ _ _); with_reducible (with_reducible refine Stop.go ?_))) | walk1 | (dsimp only; walk1) | (leave1; (try dsimp only)))
      · rename (_ ≤ (57 : Int)) => q2
        rename ((48 : Int) ≤ _) => q1
        rename Fr _ _ _ _ => F3
        rename News _ _ _ _ => N3
        rw [toNat_cast] at q1 q2
        have e1 := dig_go2 (cs := cs) (p := p) (by omega) q1 q2
        exact ⟨cs.length - (p + 1), subS1 (by omega), _, _, _, acc ++ [cs.getD p 0], p + 1, _, _, rfl, F3, by first | exact rfl | exact m1, by first | exact rfl | exact m2, by first | exact rfl | exact m3, rfl, N3, by omega, by simp; omega, rfl, by rw [hI, e1]; simp⟩
      all_goals (
        refine Stop.go ⟨_, _, m, p, tp, tb, rfl, by k_asm, m1, m2, m3, m4, by k_asm, hp, out (dig_stop2 ?_)⟩
        try simp only [toNat_cast] at *
        omega)
    · rintro s' ⟨h', tk, m, p, tp, tb, rfl, F2, m1, m2, m3, m4, N2, hp, hacc⟩
      have hds := digs_slice hacc hp
      have hdd := digs_mem (cs := cs.drop (p1 + 1))
      have hdl := digs_le (cs := cs.drop (p1 + 1))
      rw [List.length_drop] at hdl
      generalize hdg : digs (cs.drop (p1 + 1)) = ds at *
      have hd5 : ds.length ≤ 500 := by clear hds hdd; omega
      (try dsimp only)
      repeat' (first | (k_unfold; (try dsimp only)) | (k_end; kc_close) | (first | ((with_reducible show wpAny _ _ (eval (Expr.ListComp _ _ _ _) _) _ _ _); with_reducible (with_reducible refine Stop.go ?_)) | ((with_reducible show wpAny _ _ (exec (Stmt.If _ _ _ _) _) _ _ _); with_reducible ((with_reducible show wpAny _ _ (exec (Stmt.If (Expr.BoolOp _ (_ :: _ :: _ :: []) _) _ _ _) _) _ _ _); with_reducible refine Stop.go ?_)) | ((with_reducible show wpAny _ _ (call (Value.ref _) _ _) _ _ _); k_here; (with_unfolding_all show wpAny _ _ (call (Value.ref 226) [Value.ref _, Value.int _ _]) _ _ _); (refine' q_call ?k9S ?k9F ?k9N ?k9hl ?k9hi ?k9hlen ?k9h0 ?k9hat ?k9hA ?k9hroom ?k9hu ?_ ?_; (case k9F => k_asm); (case k9N => k_asm); (case k9S => assumption); (case k9hl => is_list); (case k9hi => l_ints); (case k9hlen => walk_at "m_rm"); (case k9h0 => first | assumption | omega); (case k9hat => first | assumption | omega); (case k9hA => rfl); (case k9hroom => walk_at "m_rm"); (case k9hu => walk_at "m_rm")); walk_at "t_q_call_226") | ((with_reducible show wpAny _ _ (exec (Stmt.While _ _ _ _) _) _ _ _); with_reducible (with_reducible refine Stop.go ?_))) | walk1 | (dsimp only; walk1) | (leave1; (try dsimp only)))
      refine Stop.go (comp_rule (by assumption) rfl (by decide) rfl (by decide) rfl ?_ (fun _ => rfl))
      repeat' (first | (k_unfold; (try dsimp only)) | (k_end; kc_close) | (first | ((with_reducible show wpAny _ _ (eval (Expr.ListComp _ _ _ _) _) _ _ _); with_reducible (with_reducible refine Stop.go ?_)) | ((with_reducible show wpAny _ _ (exec (Stmt.If _ _ _ _) _) _ _ _); with_reducible ((with_reducible show wpAny _ _ (exec (Stmt.If (Expr.BoolOp _ (_ :: _ :: _ :: []) _) _ _ _) _) _ _ _); with_reducible refine Stop.go ?_)) | ((with_reducible show wpAny _ _ (call (Value.ref _) _ _) _ _ _); k_here; (with_unfolding_all show wpAny _ _ (call (Value.ref 226) [Value.ref _, Value.int _ _]) _ _ _); (refine' q_call ?k9S ?k9F ?k9N ?k9hl ?k9hi ?k9hlen ?k9h0 ?k9hat ?k9hA ?k9hroom ?k9hu ?_ ?_; (case k9F => k_asm); (case k9N => k_asm); (case k9S => assumption); (case k9hl => is_list); (case k9hi => l_ints); (case k9hlen => walk_at "m_rm"); (case k9h0 => first | assumption | omega); (case k9hat => first | assumption | omega); (case k9hA => rfl); (case k9hroom => walk_at "m_rm"); (case k9hu => walk_at "m_rm")); walk_at "t_q_call_226") | ((with_reducible show wpAny _ _ (exec (Stmt.While _ _ _ _) _) _ _ _); with_reducible (with_reducible refine Stop.go ?_))) | walk1 | (dsimp only; walk1) | (leave1; (try dsimp only)))
      rename_i D1 ws1 _ F3 N3 hI2 hC2 hL2 l2
      rw [hds] at hI2
      have hwl := hI2.length
      refine CGo.mk ds.length (fun i ys nw => nw = [(D1, listOf (List.toArray ws1) 0), (ta, tupOf [.ref fa, .int ((p1 : Nat) : Int) k1] 0), (fa, listOf (List.toArray vs1) n1)] ∧ StrsAre ys ((ds.take i).map chrS)) F3 N3 (src_list rfl (by is_list)) (by simp [hwl]) (numLe hd5 (by decide)) (fun i ys nw q => by obtain ⟨rfl, _⟩ := q; exact .inr ⟨_, .head _, rfl, _, rfl⟩) ⟨rfl, .nil⟩ ?_ ?_
      · rintro i ys nw hi' ⟨rfl, hy⟩ v I oI C oC D m₂ h tk E' hP hC hx F₁ N₁ off ne
        obtain ⟨t, rfl, hic⟩ := ints_at hI2 hP
        obtain ⟨hc0, hc1⟩ := hdd _ (getD_mem hic)
        repeat' (first | (k_unfold; (try dsimp only)) | (k_end; kc_close) | (first | ((with_reducible show wpAny _ _ (eval (Expr.ListComp _ _ _ _) _) _ _ _); with_reducible (with_reducible refine Stop.go ?_)) | ((with_reducible show wpAny _ _ (exec (Stmt.If _ _ _ _) _) _ _ _); with_reducible ((with_reducible show wpAny _ _ (exec (Stmt.If (Expr.BoolOp _ (_ :: _ :: _ :: []) _) _ _ _) _) _ _ _); with_reducible refine Stop.go ?_)) | ((with_reducible show wpAny _ _ (call (Value.ref _) _ _) _ _ _); k_here; (with_unfolding_all show wpAny _ _ (call (Value.ref 226) [Value.ref _, Value.int _ _]) _ _ _); (refine' q_call ?k9S ?k9F ?k9N ?k9hl ?k9hi ?k9hlen ?k9h0 ?k9hat ?k9hA ?k9hroom ?k9hu ?_ ?_; (case k9F => k_asm); (case k9N => k_asm); (case k9S => assumption); (case k9hl => is_list); (case k9hi => l_ints); (case k9hlen => walk_at "m_rm"); (case k9h0 => first | assumption | omega); (case k9hat => first | assumption | omega); (case k9hA => rfl); (case k9hroom => walk_at "m_rm"); (case k9hu => walk_at "m_rm")); walk_at "t_q_call_226") | ((with_reducible show wpAny _ _ (exec (Stmt.While _ _ _ _) _) _ _ _); with_reducible (with_reducible refine Stop.go ?_))) | walk1 | (dsimp only; walk1) | (leave1; (try dsimp only)))
        rename Fr _ _ _ _ => F₂
        rename News _ _ _ _ => N₂
        refine CEnd.mk _ F₂ N₂ (fun p hp => hp) off ⟨rfl, ?_⟩
        rw [take_snoc hic, List.map_append]
        exact strs_snoc hy
      · rintro ys nw gg ⟨rfl, hy⟩ D h tk F₁ N₁ off
        rw [List.take_length] at hy
        simp only [LCg.Off1, and_true] at off
        repeat' (first | (k_unfold; (try dsimp only)) | (k_end; kc_close) | (first | ((with_reducible show wpAny _ _ (eval (Expr.ListComp _ _ _ _) _) _ _ _); with_reducible (with_reducible refine Stop.go ?_)) | ((with_reducible show wpAny _ _ (exec (Stmt.If _ _ _ _) _) _ _ _); with_reducible ((with_reducible show wpAny _ _ (exec (Stmt.If (Expr.BoolOp _ (_ :: _ :: _ :: []) _) _ _ _) _) _ _ _); with_reducible refine Stop.go ?_)) | ((with_reducible show wpAny _ _ (call (Value.ref _) _ _) _ _ _); k_here; (with_unfolding_all show wpAny _ _ (call (Value.ref 226) [Value.ref _, Value.int _ _]) _ _ _); (refine' q_call ?k9S ?k9F ?k9N ?k9hl ?k9hi ?k9hlen ?k9h0 ?k9hat ?k9hA ?k9hroom ?k9hu ?_ ?_; (case k9F => k_asm); (case k9N => k_asm); (case k9S => assumption); (case k9hl => is_list); (case k9hi => l_ints); (case k9hlen => walk_at "m_rm"); (case k9h0 => first | assumption | omega); (case k9hat => first | assumption | omega); (case k9hA => rfl); (case k9hroom => walk_at "m_rm"); (case k9hu => walk_at "m_rm")); walk_at "t_q_call_226") | ((with_reducible show wpAny _ _ (exec (Stmt.While _ _ _ _) _) _ _ _); with_reducible (with_reducible refine Stop.go ?_))) | walk1 | (dsimp only; walk1) | (leave1; (try dsimp only)))
        refine join_listW (N₁.isList (.head _)) (by simpa using hy) (by decide) ?_ fun t' k => ?_
        · have := sum_le (fun c => (chrS c).length) 1 ds fun c hc => Nat.le_refl _
          simp only [List.map_map, List.length_map]
          simp only [Function.comp_def]
          exact sumB this hd5
        rw [join_chr]
        repeat' (first | (k_unfold; (try dsimp only)) | (k_end; kc_close) | (first | ((with_reducible show wpAny _ _ (eval (Expr.ListComp _ _ _ _) _) _ _ _); with_reducible (with_reducible refine Stop.go ?_)) | ((with_reducible show wpAny _ _ (exec (Stmt.If _ _ _ _) _) _ _ _); with_reducible ((with_reducible show wpAny _ _ (exec (Stmt.If (Expr.BoolOp _ (_ :: _ :: _ :: []) _) _ _ _) _) _ _ _); with_reducible refine Stop.go ?_)) | ((with_reducible show wpAny _ _ (call (Value.ref _) _ _) _ _ _); k_here; (with_unfolding_all show wpAny _ _ (call (Value.ref 226) [Value.ref _, Value.int _ _]) _ _ _); (refine' q_call ?k9S ?k9F ?k9N ?k9hl ?k9hi ?k9hlen ?k9h0 ?k9hat ?k9hA ?k9hroom ?k9hu ?_ ?_; (case k9F => k_asm); (case k9N => k_asm); (case k9S => assumption); (case k9hl => is_list); (case k9hi => l_ints); (case k9hlen => walk_at "m_rm"); (case k9h0 => first | assumption | omega); (case k9hat => first | assumption | omega); (case k9hA => rfl); (case k9hroom => walk_at "m_rm"); (case k9hu => walk_at "m_rm")); walk_at "t_q_call_226") | ((with_reducible show wpAny _ _ (exec (Stmt.While _ _ _ _) _) _ _ _); with_reducible (with_reducible refine Stop.go ?_))) | walk1 | (dsimp only; walk1) | (leave1; (try dsimp only)))
        refine Stop.go (if_join (LeJ s l ta fa k1 tp vs1 n1 p1 p cs ds) ?_ ?_)
        · repeat' (first | (k_unfold; (try dsimp only)) | (k_end; kc_close) | (first | ((with_reducible show wpAny _ _ (eval (Expr.ListComp _ _ _ _) _) _ _ _); with_reducible (with_reducible refine Stop.go ?_)) | ((with_reducible show wpAny _ _ (exec (Stmt.If _ _ _ _) _) _ _ _); with_reducible ((with_reducible show wpAny _ _ (exec (Stmt.If (Expr.BoolOp _ (_ :: _ :: _ :: []) _) _ _ _) _) _ _ _); with_reducible refine Stop.go ?_)) | ((with_reducible show wpAny _ _ (call (Value.ref _) _ _) _ _ _); k_here; (with_unfolding_all show wpAny _ _ (call (Value.ref 226) [Value.ref _, Value.int _ _]) _ _ _); (refine' q_call ?k9S ?k9F ?k9N ?k9hl ?k9hi ?k9hlen ?k9h0 ?k9hat ?k9hA ?k9hroom ?k9hu ?_ ?_; (case k9F => k_asm); (case k9N => k_asm); (case k9S => assumption); (case k9hl => is_list); (case k9hi => l_ints); (case k9hlen => walk_at "m_rm"); (case k9h0 => first | assumption | omega); (case k9hat => first | assumption | omega); (case k9hA => rfl); (case k9hroom => walk_at "m_rm"); (case k9hu => walk_at "m_rm")); walk_at "t_q_call_226") | ((with_reducible show wpAny _ _ (exec (Stmt.While _ _ _ _) _) _ _ _); with_reducible (with_reducible refine Stop.go ?_))) | walk1 | (dsimp only; walk1) | (leave1; (try dsimp only)))
          · rename ((figS _ == _) = true) => z1
            rw [fig_nil] at z1
            rename Fr _ _ _ _ => F9
            exact ret _ _ _ (kp_of F9) (.none (num_bad hq1 h32 hdg (.inl (by simpa using z1))))
          · rename ((figS _ == _) = false) => z1
            rename ((figS _ != _) = true) => z2
            rename ((Txt.item _ 0 == _) = true) => z3
            rw [fig_nil] at z1
            rw [fig_zero hdd] at z2
            rename Fr _ _ _ _ => F9
            refine ret _ _ _ (kp_of F9) (.none (num_bad hq1 h32 hdg (.inr ⟨?_, by simpa using z2⟩)))
            cases hdd9 : ds with
            | nil => subst hdd9; simp at z1
            | cons c r => rw [hdd9, fig_head (hdd c (by rw [hdd9]; exact .head _)).1] at z3; simpa using z3
          all_goals (
            rename ((figS _ == _) = false) => z1
            rw [fig_nil] at z1
            have g1 : ds ≠ [] := by simpa using z1
            have g2 : ds.head? ≠ some 48 ∨ ds = [48] := by
              first
              | (rename ((figS _ != _) = false) => z2; rw [fig_zero hdd] at z2; exact .inr (by simpa using z2))
              | (rename ((Txt.item _ 0 == _) = false) => z3
                 cases hdd9 : ds with
                 | nil => exact absurd hdd9 g1
                 | cons c r => rw [hdd9, fig_head (hdd c (by rw [hdd9]; exact .head _)).1] at z3; exact .inl (by simpa using z3)))
          all_goals (try (
            rename (¬ List.take _ _ = [(32 : Int)]) => z4
            rw [slice1, take1_at] at z4
            rename Fr _ _ _ _ => F9
            exact ret _ _ _ (kp_of F9) (.none (ent_bad4 hq1 h32 hdg hacc hp g1 g2 z4))))
          all_goals (
            rename (List.take _ _ = [(32 : Int)]) => z4
            rw [slice1, take1_at] at z4
            rename News _ _ _ _ => N8
            exact LeJ.mk _ _ _ _ rfl (by assumption) (by first | exact rfl | exact m1) (by first | exact rfl | exact m2) rfl (by first | exact rfl | exact m4) (News.sub N8 (by k_allIn)) g1 g2 z4)
        clear hy off hI2 hC2 hL2 l2 hwl m1 m2 m3 m4
        rintro s' ⟨h8, tk8, m, tf, rfl, F8, m1, m2, mf, m4, N8, g1, g2, z4⟩
        (try dsimp only)
        repeat' (first | (k_unfold; (try dsimp only)) | (k_end; kc_close) | (first | ((with_reducible show wpAny _ _ (eval (Expr.ListComp _ _ _ _) _) _ _ _); with_reducible (with_reducible refine Stop.go ?_)) | ((with_reducible show wpAny _ _ (exec (Stmt.If _ _ _ _) _) _ _ _); with_reducible ((with_reducible show wpAny _ _ (exec (Stmt.If (Expr.BoolOp _ (_ :: _ :: _ :: []) _) _ _ _) _) _ _ _); with_reducible refine Stop.go ?_)) | ((with_reducible show wpAny _ _ (call (Value.ref _) _ _) _ _ _); k_here; (with_unfolding_all show wpAny _ _ (call (Value.ref 226) [Value.ref _, Value.int _ _]) _ _ _); (refine' q_call ?k9S ?k9F ?k9N ?k9hl ?k9hi ?k9hlen ?k9h0 ?k9hat ?k9hA ?k9hroom ?k9hu ?_ ?_; (case k9F => k_asm); (case k9N => k_asm); (case k9S => assumption); (case k9hl => is_list); (case k9hi => l_ints); (case k9hlen => walk_at "m_rm"); (case k9h0 => first | assumption | omega); (case k9hat => first | assumption | omega); (case k9hA => rfl); (case k9hroom => walk_at "m_rm"); (case k9hu => walk_at "m_rm")); walk_at "t_q_call_226") | ((with_reducible show wpAny _ _ (exec (Stmt.While _ _ _ _) _) _ _ _); with_reducible (with_reducible refine Stop.go ?_))) | walk1 | (dsimp only; walk1) | (leave1; (try dsimp only)))
        · rename (quotedAt _ = none) => z5
          rw [toNat_cast1] at z5
          rename Fr _ _ _ _ => F9
          exact ret _ _ _ (kp_of F9) (.none (ent_bad5 hq1 h32 hdg hacc hp g1 g2 z4 z5))
        all_goals (
          refine Stop.go (comp_rule (by k_asm) rfl (by decide) rfl (by decide) rfl ?_ (fun _ => rfl))
          repeat' (first | (k_unfold; (try dsimp only)) | (k_end; kc_close) | (first | ((with_reducible show wpAny _ _ (eval (Expr.ListComp _ _ _ _) _) _ _ _); with_reducible (with_reducible refine Stop.go ?_)) | ((with_reducible show wpAny _ _ (exec (Stmt.If _ _ _ _) _) _ _ _); with_reducible ((with_reducible show wpAny _ _ (exec (Stmt.If (Expr.BoolOp _ (_ :: _ :: _ :: []) _) _ _ _) _) _ _ _); with_reducible refine Stop.go ?_)) | ((with_reducible show wpAny _ _ (call (Value.ref _) _ _) _ _ _); k_here; (with_unfolding_all show wpAny _ _ (call (Value.ref 226) [Value.ref _, Value.int _ _]) _ _ _); (refine' q_call ?k9S ?k9F ?k9N ?k9hl ?k9hi ?k9hlen ?k9h0 ?k9hat ?k9hA ?k9hroom ?k9hu ?_ ?_; (case k9F => k_asm); (case k9N => k_asm); (case k9S => assumption); (case k9hl => is_list); (case k9hi => l_ints); (case k9hlen => walk_at "m_rm"); (case k9h0 => first | assumption | omega); (case k9hat => first | assumption | omega); (case k9hA => rfl); (case k9hroom => walk_at "m_rm"); (case k9hu => walk_at "m_rm")); walk_at "t_q_call_226") | ((with_reducible show wpAny _ _ (exec (Stmt.While _ _ _ _) _) _ _ _); with_reducible (with_reducible refine Stop.go ?_))) | walk1 | (dsimp only; walk1) | (leave1; (try dsimp only)))
          walk_at "m_ord"
          case hsz => decide
          rename IntsAre _ (codesOf _) => hex
          rw [exact_codes2] at hex
          have hexl := hex.length
          simp only [List.length_cons, List.length_nil] at hexl
          repeat' (first | (k_unfold; (try dsimp only)) | (k_end; kc_close) | (first | ((with_reducible show wpAny _ _ (eval (Expr.ListComp _ _ _ _) _) _ _ _); with_reducible (with_reducible refine Stop.go ?_)) | ((with_reducible show wpAny _ _ (exec (Stmt.If _ _ _ _) _) _ _ _); with_reducible ((with_reducible show wpAny _ _ (exec (Stmt.If (Expr.BoolOp _ (_ :: _ :: _ :: []) _) _ _ _) _) _ _ _); with_reducible refine Stop.go ?_)) | ((with_reducible show wpAny _ _ (call (Value.ref _) _ _) _ _ _); k_here; (with_unfolding_all show wpAny _ _ (call (Value.ref 226) [Value.ref _, Value.int _ _]) _ _ _); (refine' q_call ?k9S ?k9F ?k9N ?k9hl ?k9hi ?k9hlen ?k9h0 ?k9hat ?k9hA ?k9hroom ?k9hu ?_ ?_; (case k9F => k_asm); (case k9N => k_asm); (case k9S => assumption); (case k9hl => is_list); (case k9hi => l_ints); (case k9hlen => walk_at "m_rm"); (case k9h0 => first | assumption | omega); (case k9hat => first | assumption | omega); (case k9hA => rfl); (case k9hroom => walk_at "m_rm"); (case k9hu => walk_at "m_rm")); walk_at "t_q_call_226") | ((with_reducible show wpAny _ _ (exec (Stmt.While _ _ _ _) _) _ _ _); with_reducible (with_reducible refine Stop.go ?_))) | walk1 | (dsimp only; walk1) | (leave1; (try dsimp only))))
        all_goals (
          rename QAt _ _ _ _ => z5
          rw [toNat_cast1] at z5
          have hend := ent_end hq1 h32 hdg hacc hp g1 g2 z4 z5)
        all_goals (try (
          rename (¬ List.take 1 _ = [(10 : Int)]) => z7
          rename (¬ List.take _ _ = [(32 : Int), 101, 120, 97, 99, 116, 10]) => z6
          rw [slice7] at z6 z7
          rename Fr _ _ _ _ => F9
          rw [end_none z6 z7] at hend
          exact ret _ _ _ (kp_of F9) (.none hend)))
        all_goals (
          refine KIN.call_text (numeral hdd g1 (numLe hd5 rfl)) (by show (figS ds).cps.size ≤ 640; simp [figS]; exact numLe hd5 rfl) ?_
          repeat' (first | (k_unfold; (try dsimp only)) | (k_end; kc_close) | (first | ((with_reducible show wpAny _ _ (eval (Expr.ListComp _ _ _ _) _) _ _ _); with_reducible (with_reducible refine Stop.go ?_)) | ((with_reducible show wpAny _ _ (exec (Stmt.If _ _ _ _) _) _ _ _); with_reducible ((with_reducible show wpAny _ _ (exec (Stmt.If (Expr.BoolOp _ (_ :: _ :: _ :: []) _) _ _ _) _) _ _ _); with_reducible refine Stop.go ?_)) | ((with_reducible show wpAny _ _ (call (Value.ref _) _ _) _ _ _); k_here; (with_unfolding_all show wpAny _ _ (call (Value.ref 226) [Value.ref _, Value.int _ _]) _ _ _); (refine' q_call ?k9S ?k9F ?k9N ?k9hl ?k9hi ?k9hlen ?k9h0 ?k9hat ?k9hA ?k9hroom ?k9hu ?_ ?_; (case k9F => k_asm); (case k9N => k_asm); (case k9S => assumption); (case k9hl => is_list); (case k9hi => l_ints); (case k9hlen => walk_at "m_rm"); (case k9h0 => first | assumption | omega); (case k9hat => first | assumption | omega); (case k9hA => rfl); (case k9hroom => walk_at "m_rm"); (case k9hu => walk_at "m_rm")); walk_at "t_q_call_226") | ((with_reducible show wpAny _ _ (exec (Stmt.While _ _ _ _) _) _ _ _); with_reducible (with_reducible refine Stop.go ?_))) | walk1 | (dsimp only; walk1) | (leave1; (try dsimp only)))
          rename Fr _ _ _ _ => F9
          rename News _ _ _ _ => N9)
        all_goals (
          first
          | (rename (List.take _ _ = [(32 : Int), 101, 120, 97, 99, 116, 10]) => z6; rw [slice7] at z6; rw [end_exact z6] at hend)
          | (rename (List.take 1 _ = [(10 : Int)]) => z7; rw [slice7] at z7; rw [end_plain z7] at hend)
          refine ret _ _ _ (kp_of F9) ?_
          unfold LRes
          rw [show entryAt cs at_ = _ from hend]
          refine ⟨_, _, _, _, _, _, _, _, _, _, rfl, ⟨fresh_of N9 (.head _) (by simp), fresh_of N9 (.tail _ (.head _)) (by simp), ?_, ?_⟩, N9.get (.head _), N9.get (.tail _ (.head _)), N9.get (by k_mem), hI1, N9.get (by k_mem), by assumption⟩
          · exact fresh_of N9 (by k_mem) (by simp)
          · exact fresh_of N9 (by k_mem) (by simp))
  · rename Fr _ _ _ _ => F9
    rename QAt _ _ _ _ => z5
    rename (¬ List.take _ _ = [(32 : Int)]) => z4
    rw [slice1, take1_at] at z4
    exact ret _ _ _ (kp_of F9) (.none (qat_none z5 z4))
end

section
noncomputable def DeckOk (ns : List Int) : Prop := ns ≠ [] ∧ ns.length ≤ 30 ∧ ∀ c ∈ ns, 0 ≤ c ∧ c < 10 ^ 60
theorem deck_set {ns : List Int} {v : Int} (h : DeckOk ns) (h0 : 0 ≤ v) (h1 : v < 10 ^ 60) : DeckOk (ns.set (Int.toNat 0) v) := by
  obtain ⟨d1, d2, d3⟩ := h
  refine ⟨?_, by simpa using d2, fun c hc => ?_⟩
  · cases ns with
    | nil => exact absurd rfl d1
    | cons _ _ => simp
  · rcases List.mem_or_eq_of_mem_set hc with q | rfl
    · exact d3 c q
    · exact ⟨h0, h1⟩
theorem deck_head {ns : List Int} (h : DeckOk ns) : 0 ≤ ns.getD (Int.toNat 0) 0 ∧ ns.getD (Int.toNat 0) 0 < 10 ^ 60 := by
  obtain ⟨d1, d2, d3⟩ := h
  cases ns with
  | nil => exact absurd rfl d1
  | cons c r => exact d3 c (.head _)
theorem fdiv_in {a m : Int} (h0 : 0 ≤ a) (hm : 0 < m) : 0 ≤ a.fdiv m ∧ a.fdiv m ≤ a := by
  rw [Int.fdiv_eq_ediv_of_nonneg _ (Int.le_of_lt hm)]
  exact ⟨Int.ediv_nonneg h0 (Int.le_of_lt hm), Int.ediv_le_self _ h0⟩
theorem fmod_in {a m : Int} (hm : 0 < m) : 0 ≤ a.fmod m ∧ a.fmod m < m := by
  rw [Int.fmod_eq_emod_of_nonneg _ (Int.le_of_lt hm)]
  exact ⟨Int.emod_nonneg _ (by omega), Int.emod_lt_of_pos _ hm⟩
inductive DrawI (s : Shared) (l : Addr) (many : Int) (tm : Tok) (k : Nat) (s' : Shared) : Prop
  | mk (h' : Heap) (tk : Nat) (m : Str → Option Value) (vs : List Value) (ns : List Int) (n : Nat) (e0 : s' = { s with heap := h', toks := tk }) (e1 : Fr (hideAll s.heap [l]) s.heap.objs.size h' m) (e2 : m (Str.ofString "_law_deck") = some (.ref l)) (e3 : m (Str.ofString "_law_many") = some (.int many tm)) (e4 : News (hideAll s.heap [l]) s.heap.objs.size h' [(l, listOf (List.toArray vs) n)]) (e5 : IntsAre vs ns) (e6 : DeckOk ns) (e7 : k = ns.length) : DrawI s l many tm k s'
theorem draw_spec {w : World} {mean mg mb} {b : Heap} {s : Shared} {dp un : Nat} {fr : Option (List Env)} {gd : Option (List Code)} {R : Result → Shared → Prop} {l : Addr} {many : Int} {tm : Tok} {vs : List Value} {ns : List Int} {n : Nat}
    (S : Sx w mean mg mb b) (hb : b.StaysIn s.heap) (hlb : b.get? l = none)
    (hl : s.heap.get? l = some (listOf (List.toArray vs) n)) (hi : IntsAre vs ns) (hD : DeckOk ns) (hm0 : 0 < many) (hm1 : many < 1000) (hroom : dp + 20 < recursionLimit) (hu : un ≤ 8900)
    (ret : ∀ r t h' tk vs' ns' n', Kp [l] s.heap h' → 0 ≤ r → r < many → h'.get? l = some (listOf (List.toArray vs') n') → IntsAre vs' ns' → DeckOk ns' → R (.ok (.ret (.int r t))) { s with heap := h', toks := tk }) :
    codeAny (model PySem.Challenge.rw_on0064_01.row.prog w) ⟨none, dp, fr, gd, un⟩ (.call (.ref 190) ⟨[.ref l, .int many tm], []⟩) R s := by
  (have KX9 : Fill Mine.hd.heap_39 PySem.Challenge.rw_on0064_01 := (by k_fill; exact trivial); clear KX9)
  refine' enter (binds := [(Str.ofString "_law_deck", .ref l), (Str.ofString "_law_many", .int many tm)]) S hb [l] (by simp [hlb]) ?ho ?hcd (by show dp < _; omega) ?hbind ?hloc ?_ ?hcell ?c2 ?c3 ?c4
  ((case ho => ((conv => lhs; whnf); (first | (conv in (occs := *) fd9 _ => all_goals whnf) | (conv in (occs := *) md9 _ _ => all_goals whnf)); (try dsimp only); exact rfl)); (case hcd => k_is); (case hbind => exact BindsTo.of_eq rfl); (case hloc => exact locs rfl); (case hcell => decide); (case c2 => exact rfl); (case c3 => exact rfl); (case c4 => exact rfl))
  intro g L h₁ S' hg hL F K1 env9 Q9 E9
  subst hg hL
  have X := S'.X
  have T := S'.T
  have N : News (hideAll s.heap [l]) s.heap.objs.size h₁ [(l, listOf (List.toArray vs) n)] := (news1 K1 hl mw0 News.nil)
  have hvl := hi.length
  repeat' (first | (k_unfold; (try dsimp only)) | (k_end; kc_close) | (first | ((with_reducible show wpAny _ _ (exec (Stmt.While _ _ _ _) _) _ _ _); with_reducible (with_reducible refine Stop.go ?_))) | walk1 | (dsimp only; walk1) | (leave1; (try dsimp only)))
  refine Stop.go (while_rule2 (DrawI s l many tm)
      (fun s' => Stop (∃ h' tk m vs ns n, s' = { s with heap := h', toks := tk } ∧ Fr (hideAll s.heap [l]) s.heap.objs.size h' m ∧ m (Str.ofString "_law_deck") = some (.ref l) ∧ m (Str.ofString "_law_many") = some (.int many tm)
      ∧ News (hideAll s.heap [l]) s.heap.objs.size h' [(l, listOf (List.toArray vs) n)] ∧ IntsAre vs ns ∧ DeckOk ns)) ns.length ?_ ?_ ?_)
  · exact ⟨_, _, _, vs, ns, n, rfl, by k_asm, rfl, rfl, by k_asm, hi, hD, rfl⟩
  · rintro k s' ⟨h', tk, m, vs, ns, n, rfl, F2, m1, m2, N2, hi, hD, rfl⟩
    obtain ⟨d1, d2, d3⟩ := hD
    have hvl := hi.length
    have hpos : 0 < ns.length := List.length_pos_iff.mpr d1
    repeat' (first | (k_unfold; (try dsimp only)) | (k_end; kc_close) | (first | ((with_reducible show wpAny _ _ (exec (Stmt.While _ _ _ _) _) _ _ _); with_reducible (with_reducible refine Stop.go ?_))) | walk1 | (dsimp only; walk1) | (leave1; (try dsimp only)))
    · cases hi with
      | nil => exact absurd rfl d1
      | cons c t hi =>
        refine kl_popAt (k := 0) (by k_asm) (by k_asm) (by decide) ?_ rfl (by k_upd) ?_ ?_
        · unfold seqIndex?
          simp
        · rw [sizeLine_eq]
          simp at d2 hvl ⊢
          omega
        intro h2 F3 N3
        repeat' (first | (k_unfold; (try dsimp only)) | (k_end; kc_close) | (first | ((with_reducible show wpAny _ _ (exec (Stmt.While _ _ _ _) _) _ _ _); with_reducible (with_reducible refine Stop.go ?_))) | walk1 | (dsimp only; walk1) | (leave1; (try dsimp only)))
        rename Fr _ _ _ _ => F9
        rename News _ _ _ _ => N9
        exact ⟨_, by simp, _, _, m, _, _, _, rfl, F9, m1, m2, N9, hi, ⟨fun q => by rw [q] at hpos; subst q; rename (1 < _) => z; simp at z, by simp at d2; omega, fun x hx => d3 x (.tail _ hx)⟩, rfl⟩
    all_goals exact Stop.go ⟨_, _, m, vs, ns, n, rfl, by k_asm, m1, m2, by k_asm, hi, d1, d2, d3⟩
  · rintro s' ⟨h', tk, m, vs, ns, n, rfl, F2, m1, m2, N2, hi, hD⟩
    obtain ⟨d1, d2, d3⟩ := hD
    have hvl := hi.length
    have hpos : 0 < ns.length := List.length_pos_iff.mpr d1
    (try dsimp only)
    repeat' (first | (k_unfold; (try dsimp only)) | (k_end; kc_close) | (first | ((with_reducible show wpAny _ _ (exec (Stmt.While _ _ _ _) _) _ _ _); with_reducible (with_reducible refine Stop.go ?_))) | walk1 | (dsimp only; walk1) | (leave1; (try dsimp only)))
    · have hh := deck_head ⟨d1, d2, d3⟩
      have q1 := fdiv_in hh.1 hm0
      have q2 := fmod_in (a := ns.getD (Int.toNat 0) 0) hm0
      rename Fr _ _ _ _ => F9
      rename News _ _ _ _ => N9
      exact ret _ _ _ _ _ _ _ (kp_of F9) q2.1 q2.2 (N9.get (.head _)) (by assumption) (deck_set ⟨d1, d2, d3⟩ q1.1 (Int.lt_of_le_of_lt q1.2 hh.2))
    · have q1 := fmod_in (a := ns.getD (Int.toNat 0) 0 * 48271 + 11) (m := 2147483647) (by omega)
      rename Fr _ _ _ _ => F9
      rename News _ _ _ _ => N9
      have q2 := fmod_in (a := ((ns.set (Int.toNat 0) ((ns.getD (Int.toNat 0) 0 * 48271 + 11).fmod 2147483647)).getD (Int.toNat 0) 0).fdiv 64) hm0
      exact ret _ _ _ _ _ _ _ (kp_of F9) q2.1 q2.2 (N9.get (.head _)) (by assumption) (deck_set ⟨d1, d2, d3⟩ q1.1 (Int.lt_trans q1.2 (by decide)))
end

section
section
open LCg
variable {prog : Program} {w : World} {A : Around} {E : Value → Shared → Prop} {s s₁ : Shared} {h₀ : Heap} {L : Addr} {m : Str → Option Value} {env : Env} {news : List (Addr × Obj)}
theorem comp_invT {ct elt : Expr} {x : Str} {scope : Scope} {cl : List (Str × Addr)} {S : List (Addr × Obj) → Prop} {P : Nat → Value → Prop} {Fin : List Value → List (Addr × Obj) → Prop} (n : Nat) (J : Nat → List Value → List (Addr × Obj) → Prop)
    (hS : ∀ i ys nw, J i ys nw → S nw)
    (step : ∀ i ys news, i < n → J i ys news → ∀ v I oI C oC D m₂ h tk (E' : Value → Shared → Prop), P i v → NsObj oC m₂ → m₂ x = some v → Fr h₀ L h m → News h₀ L h ((I, oI) :: (C, oC) :: (D, lst ys) :: news) → Off3 I C D news → ((@Ne Nat I C) ∧ (@Ne Nat I D) ∧ (@Ne Nat C D)) →
      wpAny (model prog w) A (isTrue ct (compEnvC scope cl C env) (eval ct (compEnvC scope cl C env))) (fun ok s' => if ok = true then
        wpAny (model prog w) A (eval elt (compEnvC scope cl C env)) (CEnd h₀ L m { s with heap := h, toks := tk } I oI C oC D (lst ys) (fun y news' => J (i + 1) (ys ++ [y]) news')) E' s'
        else CEnd h₀ L m { s with heap := h, toks := tk } I oI C oC D (lst ys) (fun _ news' => J (i + 1) ys news') Value.none s') E' { s with heap := h, toks := tk })
    (done : ∀ ys news, J n ys news → Fin ys news) : ∀ k i ys news, i + k = n → J i ys news → LCt.CompRestT prog w A h₀ L m env ct elt x scope cl s S P Fin k i ys news
  | 0, i, ys, news, hi, hJ => by
    rw [Nat.add_zero] at hi; subst hi
    exact done _ _ hJ
  | k + 1, i, ys, news, hi, hJ => by
    refine LCt.CompRestT.succ fun v I oI C oC D m₂ h tk E' hP hC hx F N off ne => ?_
    refine wpAny_mono (step i ys news (by omega) hJ v I oI C oC D m₂ h tk E' hP hC hx F N off ne) (fun ok s₂ q => ?_) fun _ _ e => e
    cases ok with
    | true =>
      simp only [if_true] at q ⊢
      refine wpAny_mono q (fun y s₃ q => ?_) fun _ _ e => e
      obtain ⟨h', tk', news', rfl, F', N', off', r⟩ := q
      exact ⟨h', tk', news', rfl, F', N', off', hS _ _ _ r, comp_invT n J hS step done k (i + 1) _ _ (by omega) r⟩
    | false =>
      simp only [Bool.false_eq_true, if_false] at q ⊢
      obtain ⟨h', tk', news', rfl, F', N', off', r⟩ := q
      exact ⟨h', tk', news', rfl, F', N', off', hS _ _ _ r, comp_invT n J hS step done k (i + 1) _ _ (by omega) r⟩

inductive CGoT (prog : Program) (w : World) (A : Around) (h₀ : Heap) (L : Addr) (m : Str → Option Value) (env : Env) (ct elt : Expr) (x : Str) (scope : Scope) (cl : List (Str × Addr)) (Fin : Shared → List Value → List (Addr × Obj) → Prop) (xv : Value) (s₁ : Shared) : Prop
  | intro (n : Nat) (P : Nat → Value → Prop) (S : List (Addr × Obj) → Prop) (news : List (Addr × Obj)) (e0 : Src prog w A h₀ L xv s₁ n P S) (e1 : n ≤ sizeLine) (e2 : Fr h₀ L s₁.heap m) (e3 : News h₀ L s₁.heap news) (e4 : S news) (e5 : ∀ g, LCt.CompRestT prog w A h₀ L m env ct elt x scope cl { s₁ with heap := g } S P (Fin { s₁ with heap := g }) n 0 [] news) : CGoT prog w A h₀ L m env ct elt x scope cl Fin xv s₁
theorem CGoT.mk {ct elt : Expr} {x : Str} {scope : Scope} {cl : List (Str × Addr)} {Fin : Shared → List Value → List (Addr × Obj) → Prop} {xv : Value} {n : Nat} {P : Nat → Value → Prop} {S : List (Addr × Obj) → Prop} (n' : Nat)
    (J : Nat → List Value → List (Addr × Obj) → Prop) (F : Fr h₀ L s₁.heap m) (N : News h₀ L s₁.heap news) (src : Src prog w A h₀ L xv s₁ n P S) (hn : n = n') (hsz : n' ≤ 1000000) (hS : ∀ i ys nw, J i ys nw → S nw) (h0 : J 0 [] news)
    (step : ∀ i ys news, i < n' → J i ys news → ∀ v I oI C oC D m₂ h tk (E' : Value → Shared → Prop), P i v → NsObj oC m₂ → m₂ x = some v → Fr h₀ L h m → News h₀ L h ((I, oI) :: (C, oC) :: (D, lst ys) :: news) → Off3 I C D news → ((@Ne Nat I C) ∧ (@Ne Nat I D) ∧ (@Ne Nat C D)) →
      wpAny (model prog w) A (isTrue ct (compEnvC scope cl C env) (eval ct (compEnvC scope cl C env))) (fun ok s' => if ok = true then
        wpAny (model prog w) A (eval elt (compEnvC scope cl C env)) (CEnd h₀ L m { s₁ with heap := h, toks := tk } I oI C oC D (lst ys) (fun y news' => J (i + 1) (ys ++ [y]) news')) E' s'
        else CEnd h₀ L m { s₁ with heap := h, toks := tk } I oI C oC D (lst ys) (fun _ news' => J (i + 1) ys news') Value.none s') E' { s₁ with heap := h, toks := tk })
    (done : ∀ ys news g, J n' ys news → Fin { s₁ with heap := g } ys news) : CGoT prog w A h₀ L m env ct elt x scope cl Fin xv s₁ := by
  subst hn
  refine ⟨n, P, S, news, src, Nat.le_trans hsz (by rw [sizeLine_eq]; omega), F, N, hS _ _ _ h0, fun g => ?_⟩
  exact comp_invT (s := { s₁ with heap := g }) n J hS step (fun ys news q => done ys news g q) n 0 [] news (Nat.zero_add _) h0

theorem comp_ruleT {ct elt iter : Expr} {x : Str} {px : Pos} {scope : Scope} {cl : List (Str × Addr)} {pos : Pos} {Q : Value → Shared → Prop} (F₀ : Fr h₀ L s.heap m)
    (hclos : closureFor scope env = pure cl) (hcell : ∀ y ∈ scope.names, y.2 ≠ .cell) (hkind : scope.kind = .function)
    (hnames : ∀ y ∈ scope.names, y.2 = .local → scope.names.lookup y.1 = some .local) (hx : scope.names.lookup x = some .local)
    (h : wpAny (model prog w) A (eval iter env) (CGoT prog w A h₀ L m env ct elt x scope cl (fun s₂ => FinE h₀ L m s₂ Q)) E s)
    (hs : ∀ x, foldedSetIterable iter env x = pure x) :
    wpAny (model prog w) A (eval (.ListComp elt [⟨.Name x px, iter, [ct], 0⟩] scope pos) env) Q E s := by
  rw [eval_ListComp]
  refine wpAny_comprehension_free (use := none) rfl hs hclos hkind hnames (wpAny_mono h (fun xv s₁ h₁ => ?_) fun _ _ e => e)
  obtain ⟨n, P, S, news, hsrc, hsz, F, N, hS, R⟩ := h₁
  refine hsrc _ _ fun fp St o W hIo hSt hst hfp hI => ?_
  have up : ∀ b o', s₁.heap.get? b = some o' → (s₁.heap.push o).get? b = some o' := fun b o' e => Heap.get?_push_of_some _ e
  refine LCt.block_T W hsz hIo hSt hcell hkind hx hst hfp (F.keeps up) (N.grown up) (Nat.ne_of_lt F.ns.lt) (next_is_new F) (fun p hp => Nat.ne_of_lt (Heap.lt_size (N p hp).1)) hS (R _) ?_
  intro D C h' tk m' ys news' F' N' o1 hn hC₀ hD₀ hCL hDL hCD offC fin
  refine ⟨m', hn, fun h'' hs'' => fin D h'' tk (F'.change hs'' hCL hC₀) (fun p hp => ?_) o1⟩
  refine ⟨hs''.extBut _ _ ?_ (N' p hp).1, (N' p hp).2⟩
  rcases List.mem_cons.mp hp with rfl | hp
  · exact Ne.symm hCD
  · exact offC p hp
end
end

local macro_rules | `(tactic| walk_at "t_pow9") => `(tactic| (intro P9 tP tkP hP9; (try dsimp only)))
local macro_rules | `(tactic| walk_at "t_pow60") => `(tactic| (intro P60 tP tkP hP0 hP1 hP2; (try dsimp only)))
local macro_rules | `(tactic| walk_at "t_mod_pos") => `(tactic| (intro rM tM tkM hM0 hM1; (try dsimp only)))
section
section
variable {prog : Program} {w : World} {A : Around} {E : Value → Shared → Prop} {s : Shared} {a b : Tok}
theorem pow60 {Q : Value → Shared → Prop} (h : ∀ P t tk, 0 < P → P ≤ 10 ^ 60 → P ≠ 0 → Q (.int P t) { s with toks := tk }) : wpAny (model prog w) A (binaryOp .Pow (.int 10 a) (.int 60 b)) Q E s :=
  pow_int_small (by decide) (by decide) (by decide) (h _ _ _ (by decide +kernel) (by decide +kernel) (by decide +kernel))
theorem pow9 {Q : Value → Shared → Prop} (h : ∀ P t tk, P = 1000000000 → Q (.int P t) { s with toks := tk }) : wpAny (model prog w) A (binaryOp .Pow (.int 10 a) (.int 9 b)) Q E s :=
  pow_int_small (by decide) (by decide) (by decide) (h _ _ _ (by decide +kernel))
theorem mod_pos {x m : Int} {Q : Value → Shared → Prop} (hm : 0 < m) (h : ∀ r t tk, 0 ≤ r → r < m → Q (.int r t) { s with toks := tk }) : wpAny (model prog w) A (binaryOp .Mod (.int x a) (.int m b)) Q E s :=
  mod_int' (Int.ne_of_gt hm) (h _ _ _ (fmod_in hm).1 (fmod_in hm).2)
end
theorem abs_nn (c : Int) : 0 ≤ (if c < 0 then -c else c) := by split <;> omega
theorem fmod_nn {a m : Int} (h : 0 < m) : 0 ≤ a.fmod m ∧ a.fmod m < m := by
  rw [Int.fmod_eq_emod_of_nonneg _ (Int.le_of_lt h)]
  exact ⟨Int.emod_nonneg _ (by omega), Int.emod_lt_of_pos _ h⟩
inductive DkI (l D' : Addr) (ws' : List Value) (B : Int) (i : Nat) (m : Str → Option Value) (nw : List (Addr × Obj)) : Prop
  | mk (e0 : m (Str.ofString "script") = some (.ref l)) (e1 : nw = [(D', listOf (List.toArray ws') 0)]) (x : Int) (t : Tok) (e2 : m (Str.ofString "_law_mixed") = some (.int x t)) (e3 : 0 ≤ x) (e4 : x < B) : DkI l D' ws' B i m nw
inductive DkJ (D2 D' : Addr) (ws2 ws' : List Value) (i : Nat) (ys : List Value) (nw : List (Addr × Obj)) : Prop
  | mk (e0 : nw = [(D2, listOf (List.toArray ws2) 0), (D', listOf (List.toArray ws') 0)]) (zs : List Int) (e1 : IntsAre ys zs) (e2 : zs.length ≤ i) (e3 : ∀ c ∈ zs, 0 ≤ c ∧ c < 10 ^ 60) : DkJ D2 D' ws2 ws' i ys nw
set_option maxHeartbeats 1000000 in
theorem deckof_spec {w : World} {mean mg mb} {b : Heap} {s : Shared} {dp un : Nat} {fr : Option (List Env)} {gd : Option (List Code)} {R : Result → Shared → Prop} {l : Addr} {vs : List Value} {ns : List Int}
    (S : Sx w mean mg mb b) (hb : b.StaysIn s.heap)
    (hl : s.heap.IsList l vs.toArray) (hi : IntsAre vs ns) (hlen : ns.length ≤ 63) (hroom : dp + 20 < recursionLimit) (hu : un ≤ 8900)
    (ret : ∀ D vs' ns' n' h' tk, Kp [] s.heap h' → s.heap.get? D = none → h'.get? D = some (listOf (List.toArray vs') n') → IntsAre vs' ns' → DeckOk ns' → R (.ok (.ret (.ref D))) { s with heap := h', toks := tk }) :
    codeAny (model PySem.Challenge.rw_on0064_01.row.prog w) ⟨none, dp, fr, gd, un⟩ (.call (.ref 195) ⟨[.ref l], []⟩) R s := by
  (have KX9 : Fill Mine.hd.heap_39 PySem.Challenge.rw_on0064_01 := (by k_fill; exact trivial); clear KX9)
  refine' enter (binds := [(Str.ofString "script", .ref l)]) S hb [] (by simp) ?ho ?hcd (by show dp < _; omega) ?hbind ?hloc ?_ ?hcell ?c2 ?c3 ?c4
  ((case ho => ((conv => lhs; whnf); (first | (conv in (occs := *) fd9 _ => all_goals whnf) | (conv in (occs := *) md9 _ _ => all_goals whnf)); (try dsimp only); exact rfl)); (case hcd => k_is); (case hbind => exact BindsTo.of_eq rfl); (case hloc => exact locs rfl); (case hcell => decide); (case c2 => exact rfl); (case c3 => exact rfl); (case c4 => exact rfl))
  intro g L h₁ S' hg hL F K1 env9 Q9 E9
  subst hg hL
  have X := S'.X
  have T := S'.T
  have N : News (hideAll s.heap []) s.heap.objs.size h₁ [] := News.nil
  have hB : (hideAll s.heap []).IsList l vs.toArray := isList_hide hl (by simp)
  have hvl := hi.length
  repeat' (first | (k_unfold; (try dsimp only)) | (k_end; kc_close) | (first | ((with_reducible show wpAny _ _ (binaryOp _ (Value.int _ _) (Value.int _ _)) _ _ _); with_reducible (first | (k_here; (with_reducible show wpAny _ _ (binaryOp _ (Value.int 10 _) (Value.int 9 _)) _ _ _); (refine pow9 ?_); walk_at "t_pow9") | (k_here; (with_reducible show wpAny _ _ (binaryOp _ (Value.int 10 _) (Value.int 60 _)) _ _ _); (refine pow60 ?_); walk_at "t_pow60") | (k_here; (with_reducible show wpAny _ _ (binaryOp _ (Value.int _ _) (Value.int _ _)) _ _ _); (refine mod_pos (by first | assumption | decide) ?_); walk_at "t_mod_pos"))) | ((with_reducible show wpAny _ _ (eval (Expr.ListComp _ _ _ _) _) _ _ _); with_reducible (with_reducible refine Stop.go ?_)) | ((with_reducible show wpAny _ _ (exec (Stmt.For _ _ _ _ _) _) _ _ _); with_reducible (k_here; (with_unfolding_all (refine' For_mine ?_ ?k9hs; (case k9hs => intro _; rfl))))) | ((with_reducible show wpAny _ _ (exec (Stmt.While _ _ _ _) _) _ _ _); with_reducible (with_reducible refine Stop.go ?_))) | walk1 | (dsimp only; walk1) | (leave1; (try dsimp only)))
  rename_i D' ws' _ _ _ hI' _ _ _
  rename Fr _ _ _ _ => F1
  rename News _ _ _ _ => N1
  have hwl := hI'.length
  obtain ⟨B, hB9⟩ : ∃ B : Int, B = 2147483647 := ⟨_, rfl⟩
  refine Stop.go (for_list (n := ws'.length) (DkI l D' ws' B) rfl F1 N1 (N1.isList (.head _)) (.inr ⟨_, fun i m nw hJ => by obtain ⟨_, rfl, _⟩ := hJ; exact .head _⟩) ?_ ?_ ?_ rfl rfl (by passes_own) (by simp))
  · exact ⟨rfl, rfl, 7, _, rfl, by omega, by omega⟩
  · rintro I i v m₁ nw oI h tk hi' ⟨m1, rfl, x, t, m2, hx0, hx1⟩ hne F₁ N₁
    obtain ⟨t', rfl, hic⟩ := ints_at hI' hi'
    dsimp only at F₁ N₁ ⊢
    replace hne := neAll_of hne
    dsimp only [NeAll] at hne
    repeat' (first | (k_unfold; (try dsimp only)) | (k_end; kc_close) | (first | ((with_reducible show wpAny _ _ (binaryOp _ (Value.int _ _) (Value.int _ _)) _ _ _); with_reducible (first | (k_here; (with_reducible show wpAny _ _ (binaryOp _ (Value.int 10 _) (Value.int 9 _)) _ _ _); (refine pow9 ?_); walk_at "t_pow9") | (k_here; (with_reducible show wpAny _ _ (binaryOp _ (Value.int 10 _) (Value.int 60 _)) _ _ _); (refine pow60 ?_); walk_at "t_pow60") | (k_here; (with_reducible show wpAny _ _ (binaryOp _ (Value.int _ _) (Value.int _ _)) _ _ _); (refine mod_pos (by first | assumption | decide) ?_); walk_at "t_mod_pos"))) | ((with_reducible show wpAny _ _ (eval (Expr.ListComp _ _ _ _) _) _ _ _); with_reducible (with_reducible refine Stop.go ?_)) | ((with_reducible show wpAny _ _ (exec (Stmt.For _ _ _ _ _) _) _ _ _); with_reducible (k_here; (with_unfolding_all (refine' For_mine ?_ ?k9hs; (case k9hs => intro _; rfl))))) | ((with_reducible show wpAny _ _ (exec (Stmt.While _ _ _ _) _) _ _ _); with_reducible (with_reducible refine Stop.go ?_))) | walk1 | (dsimp only; walk1) | (leave1; (try dsimp only)))
    rename Fr _ _ _ _ => F2
    rename News _ _ _ _ => N2
    exact ForStep.mk F2 N2 (by exact neAll_to hne) ⟨m1, rfl, _, _, rfl, by assumption, by omega⟩
  · rintro h tk m₁ nw F₁ N₁ ⟨m1, rfl, x, t, m2, hx0, hx1⟩
    dsimp only at F₁ N₁ ⊢
    clear F1 N1
    repeat' (first | (k_unfold; (try dsimp only)) | (k_end; kc_close) | (first | ((with_reducible show wpAny _ _ (binaryOp _ (Value.int _ _) (Value.int _ _)) _ _ _); with_reducible (first | (k_here; (with_reducible show wpAny _ _ (binaryOp _ (Value.int 10 _) (Value.int 9 _)) _ _ _); (refine pow9 ?_); walk_at "t_pow9") | (k_here; (with_reducible show wpAny _ _ (binaryOp _ (Value.int 10 _) (Value.int 60 _)) _ _ _); (refine pow60 ?_); walk_at "t_pow60") | (k_here; (with_reducible show wpAny _ _ (binaryOp _ (Value.int _ _) (Value.int _ _)) _ _ _); (refine mod_pos (by first | assumption | decide) ?_); walk_at "t_mod_pos"))) | ((with_reducible show wpAny _ _ (eval (Expr.ListComp _ _ _ _) _) _ _ _); with_reducible (with_reducible refine Stop.go ?_)) | ((with_reducible show wpAny _ _ (exec (Stmt.For _ _ _ _ _) _) _ _ _); with_reducible (k_here; (with_unfolding_all (refine' For_mine ?_ ?k9hs; (case k9hs => intro _; rfl))))) | ((with_reducible show wpAny _ _ (exec (Stmt.While _ _ _ _) _) _ _ _); with_reducible (with_reducible refine Stop.go ?_))) | walk1 | (dsimp only; walk1) | (leave1; (try dsimp only)))
    refine Stop.go (comp_ruleT (by assumption) rfl (by decide) rfl (by decide) rfl ?_ (fun _ => rfl))
    repeat' (first | (k_unfold; (try dsimp only)) | (k_end; kc_close) | (first | ((with_reducible show wpAny _ _ (binaryOp _ (Value.int _ _) (Value.int _ _)) _ _ _); with_reducible (first | (k_here; (with_reducible show wpAny _ _ (binaryOp _ (Value.int 10 _) (Value.int 9 _)) _ _ _); (refine pow9 ?_); walk_at "t_pow9") | (k_here; (with_reducible show wpAny _ _ (binaryOp _ (Value.int 10 _) (Value.int 60 _)) _ _ _); (refine pow60 ?_); walk_at "t_pow60") | (k_here; (with_reducible show wpAny _ _ (binaryOp _ (Value.int _ _) (Value.int _ _)) _ _ _); (refine mod_pos (by first | assumption | decide) ?_); walk_at "t_mod_pos"))) | ((with_reducible show wpAny _ _ (eval (Expr.ListComp _ _ _ _) _) _ _ _); with_reducible (with_reducible refine Stop.go ?_)) | ((with_reducible show wpAny _ _ (exec (Stmt.For _ _ _ _ _) _) _ _ _); with_reducible (k_here; (with_unfolding_all (refine' For_mine ?_ ?k9hs; (case k9hs => intro _; rfl))))) | ((with_reducible show wpAny _ _ (exec (Stmt.While _ _ _ _) _) _ _ _); with_reducible (with_reducible refine Stop.go ?_))) | walk1 | (dsimp only; walk1) | (leave1; (try dsimp only)))
    rename_i D2 ws2 _ _ _ hI2 _ _ _
    rename Fr _ _ _ _ => F2
    rename News _ _ _ _ => N2
    have hw2 := hI2.length
    refine CGoT.mk ws2.length (DkJ D2 D' ws2 ws') F2 N2 (src_list rfl (by is_list)) (by simp) (by omega) (fun i ys nw q => by obtain ⟨rfl, _⟩ := q; exact .inr ⟨_, .head _, rfl, _, rfl⟩) ⟨rfl, [], .nil, by simp, by simp⟩ ?_ ?_
    · rintro i ys nw hi' ⟨rfl, zs, hy, hz, hzc⟩ v I oI C oC D m₂ h tk E' hP hC hx F₁ N₁ off ne
      obtain ⟨t2, rfl, hic⟩ := ints_at hI2 hP
      repeat' (first | (k_unfold; (try dsimp only)) | (k_end; kc_close) | (first | ((with_reducible show wpAny _ _ (binaryOp _ (Value.int _ _) (Value.int _ _)) _ _ _); with_reducible (first | (k_here; (with_reducible show wpAny _ _ (binaryOp _ (Value.int 10 _) (Value.int 9 _)) _ _ _); (refine pow9 ?_); walk_at "t_pow9") | (k_here; (with_reducible show wpAny _ _ (binaryOp _ (Value.int 10 _) (Value.int 60 _)) _ _ _); (refine pow60 ?_); walk_at "t_pow60") | (k_here; (with_reducible show wpAny _ _ (binaryOp _ (Value.int _ _) (Value.int _ _)) _ _ _); (refine mod_pos (by first | assumption | decide) ?_); walk_at "t_mod_pos"))) | ((with_reducible show wpAny _ _ (eval (Expr.ListComp _ _ _ _) _) _ _ _); with_reducible (with_reducible refine Stop.go ?_)) | ((with_reducible show wpAny _ _ (exec (Stmt.For _ _ _ _ _) _) _ _ _); with_reducible (k_here; (with_unfolding_all (refine' For_mine ?_ ?k9hs; (case k9hs => intro _; rfl))))) | ((with_reducible show wpAny _ _ (exec (Stmt.While _ _ _ _) _) _ _ _); with_reducible (with_reducible refine Stop.go ?_))) | walk1 | (dsimp only; walk1) | (leave1; (try dsimp only)))
      · refine CEnd.mk _ (by k_asm) (by k_asm) (fun p hp => hp) off ⟨rfl, zs ++ [_], ints_push hy, by simp; omega, fun c hc => ?_⟩
        rcases List.mem_append.mp hc with hc | hc
        · exact hzc c hc
        · obtain rfl := List.mem_singleton.mp hc
          exact ⟨by assumption, Int.lt_of_lt_of_le (by assumption) (by assumption)⟩
      · exact CEnd.mk _ (by k_asm) (by k_asm) (fun p hp => hp) off ⟨rfl, zs, hy, by omega, hzc⟩
    · rintro ys nw gg ⟨rfl, zs, hy, hz, hzc⟩ D h tk F₁ N₁ off
      have hzm : zs.length ≤ 29 := Nat.le_trans hz (by rw [hw2, List.length_take]; exact Nat.le_trans (Nat.min_le_left _ _) (by decide))
      simp only [LCg.Off1, and_true] at off
      repeat' (first | (k_unfold; (try dsimp only)) | (k_end; kc_close) | (first | ((with_reducible show wpAny _ _ (binaryOp _ (Value.int _ _) (Value.int _ _)) _ _ _); with_reducible (first | (k_here; (with_reducible show wpAny _ _ (binaryOp _ (Value.int 10 _) (Value.int 9 _)) _ _ _); (refine pow9 ?_); walk_at "t_pow9") | (k_here; (with_reducible show wpAny _ _ (binaryOp _ (Value.int 10 _) (Value.int 60 _)) _ _ _); (refine pow60 ?_); walk_at "t_pow60") | (k_here; (with_reducible show wpAny _ _ (binaryOp _ (Value.int _ _) (Value.int _ _)) _ _ _); (refine mod_pos (by first | assumption | decide) ?_); walk_at "t_mod_pos"))) | ((with_reducible show wpAny _ _ (eval (Expr.ListComp _ _ _ _) _) _ _ _); with_reducible (with_reducible refine Stop.go ?_)) | ((with_reducible show wpAny _ _ (exec (Stmt.For _ _ _ _ _) _) _ _ _); with_reducible (k_here; (with_unfolding_all (refine' For_mine ?_ ?k9hs; (case k9hs => intro _; rfl))))) | ((with_reducible show wpAny _ _ (exec (Stmt.While _ _ _ _) _) _ _ _); with_reducible (with_reducible refine Stop.go ?_))) | walk1 | (dsimp only; walk1) | (leave1; (try dsimp only)))
      rename Fr _ _ _ _ => F9
      rename News _ _ _ _ => N9
      refine ret _ _ _ _ _ _ (kp_of F9) (fresh_of N9 (.head _) (by simp)) (N9.get (.head _)) (by assumption) ⟨by simp, by simp; omega, fun c hc => ?_⟩
      rcases List.mem_append.mp hc with hc | hc
      · exact hzc c hc
      · obtain rfl := List.mem_singleton.mp hc
        exact ⟨hx0, Int.lt_trans hx1 (by rw [hB9]; decide +kernel)⟩
end

section
section
variable {w : World} {mean : ExcName → Option Value} {mg mb : Str → Option Value} {b : Heap} {s : Shared} {A : Around} {R : Result → Shared → Prop}
  {name qual : Str} {params : Arguments} {body : List Stmt} {scope : Scope} {dV kV doc pm cdv ct oc : Value} {an od : Option Addr} {osl : Array (Option Value)} {f : Addr} {args : Args} {binds : List (Str × Value)}
theorem enterC (S : Sx w mean mg mb b) (hb : b.StaysIn s.heap) (W : List Addr) (hW : ∀ a ∈ W, b.get? a = none)
    (ho : (hd.heap_39 w.params).lookup f = some ⟨oc, od, .func (fnOf name qual params body scope dV kV doc pm an cdv ct), osl⟩) (hcd : codeIn (hd.heap_39 w.params) cdv qual = true) (hroom : A.depth < recursionLimit)
    (hbind : BindsTo s (fnOf name qual params body scope dV kV doc pm an cdv ct) args binds) (hkind : (binds.all fun y => scope.names.lookup y.1 == some .local || scope.names.lookup y.1 == some .cell) = true)
    (hnd : ((cellsFrom 0 scope.names []).map (·.1)).Nodup)
    (h : ∀ g L h₁ tk cells, Sx w mean mg mb g → g = hideAll s.heap W → L = s.heap.objs.size → Fr g L h₁ (bindL (envOfC qual scope L f cdv).kindOf binds fun _ => none) → Kp [] s.heap h₁ → News g L h₁ cells →
      CellsAre (bindC (envOfC qual scope L f cdv).kindOf binds fun _ => none) (cellsFrom (L + 1) scope.names []) cells →
      wpAny (model PySem.Challenge.rw_on0064_01.row.prog w) (A.deeper (envOfC qual scope L f cdv)) (execs body (envOfC qual scope L f cdv))
        (fun fl s' => R (.ok (.ret (match fl with | .ret v => v | _ => .none))) s')
        (fun e s' => wpAny (model PySem.Challenge.rw_on0064_01.row.prog w) (A.deeper (envOfC qual scope L f cdv)) (leaving (envOfC qual scope L f cdv) e) (fun _ s'' => R (.error e) s'') (fun e' s'' => R (.error e') s'') s')
        { s with heap := h₁, toks := tk })
    (hco : scope.isCoroutine = false := by rfl) (hgen : scope.isGenerator = false := by rfl) (hk : scope.kind = .function := by rfl) :
    codeAny (model PySem.Challenge.rw_on0064_01.row.prog w) A (.call (.ref f) args) R s := by
  have X : (hd.heap_39 w.params).In s.heap := S.X.keeps hb
  refine codeAny_call_function hroom (X _ _ ho) rfl hco hgen rfl (codeRec_of X hcd) (hbind _ _ _ _ ?_)
  refine wpAny_newFunctionEnv_cells hk (kindsX hkind _) fun env' he s' x => ?_
  subst he
  refine ⟨(S.T.nolimit.keeps hb).keeps x.toInCall.keep, codeAny_func ?_⟩
  obtain ⟨h₁, tk, rfl, _⟩ := x.done
  have hk₁ := x.toInCall.keep
  obtain ⟨cells, NC, Y⟩ := Cl.news (h₀ := s.heap) (Nat.le_refl _) fun n c hm => ⟨x.cell n c (lookup_of_mem_nodup (cellsFrom_names scope.names 0 (s.heap.objs.size + 1) [] [] rfl ▸ hnd) hm), x.above n c hm⟩
  refine h (hideAll s.heap W) s.heap.objs.size h₁ tk cells (S.keeps (hide_stays hb hW)) rfl rfl ⟨x.toInCall.ns, fun b o e => hk₁ b o (of_hideAll _ e), Nat.le_of_eq (hideAll_size _ _)⟩ ⟨Nat.le_of_lt x.toInCall.ns.lt, fun a o _ e => hk₁ a o e⟩ (fun p hp => ?_) Y
  refine ⟨(NC p hp).1, (NC p hp).2.1, ?_⟩
  cases q : (hideAll s.heap W).get? p.1 with
  | none => rfl
  | some o => have := of_hideAll _ q; rw [(NC p hp).2.2] at this; cases this
theorem News.app {g h : Heap} {L : Addr} {a b : List (Addr × Obj)} (N : News g L h a) (M : News g L h b) : News g L h (a ++ b) := fun p hp =>
  (List.mem_append.mp hp).elim (N p) (M p)
end
end

local macro_rules | `(tactic| walk_at "t_draw_call_190") => `(tactic| (intro dr dt h' tk vs' ns' n' dr0 dr1 hi' hD' F' N'; (try k_sweep)))
section
section
variable {w : World} {mean : ExcName → Option Value} {mg mb : Str → Option Value} {g : Heap} {s : Shared} {A : Around} {dp un tk : Nat} {fr : Option (List Env)} {gd : Option (List Code)} {m : Str → Option Value} {L l : Addr} {many : Int} {tm : Tok} {vs : List Value} {ns : List Int} {n : Nat}
  {news : List (Addr × Obj)} {E : Value → Shared → Prop} {Q : Value → Shared → Prop} {G : Obj → List (Addr × Obj)}
theorem draw_call (S : Sx w mean mg mb g) (F : Fr g L s.heap m) (N : News g L s.heap news) (U : UpdF l (listOf (List.toArray vs) n) news G) (hi : IntsAre vs ns) (hD : DeckOk ns) (hm0 : 0 < many) (hm1 : many < 1000) (hA : A = ⟨none, dp, fr, gd, un⟩) (hroom : dp + 20 < recursionLimit) (hu : un ≤ 8900)
    (k : ∀ r t h' tk vs' ns' n', 0 ≤ r → r < many → IntsAre vs' ns' → DeckOk ns' → Fr g L h' m → News g L h' (G (listOf (List.toArray vs') n')) → Q (.int r t) { s with heap := h', toks := tk }) :
    wpAny (model PySem.Challenge.rw_on0064_01.row.prog w) A (call (.ref 190) [.ref l, .int many tm]) Q E s := by
  subst hA
  have hl : (l, listOf (List.toArray vs) n) ∈ news := by
    obtain ⟨pre, post, rfl, _⟩ := U.split
    exact List.mem_append_right _ (.head _)
  refine wpAny_call (draw_spec S F.keep (N.fresh hl) (N.get hl) hi hD hm0 hm1 hroom hu fun r t h' tk vs' ns' n' K r0 r1 hl' hi' hD' => ?_)
  exact k r t h' tk vs' ns' n' r0 r1 hi' hD' (Fr.kp F K (by simpa using (N _ hl).2.1.symm) (by simpa using (N _ hl).2.2)) (News.updF N U K hl')
end
theorem one_item {x : Str} {r : Int} (h0 : 0 ≤ r) (h1 : r < ((x.cps.size : Nat) : Int)) : ∃ c, x.cps[r.toNat]? = some c ∧ Txt.item x r = ⟨#[c]⟩ :=
  have e : x.cps[r.toNat]? = some (x.cps[r.toNat]'(by omega)) := Array.getElem?_eq_getElem (by omega)
  ⟨_, e, item_meets h0 e⟩
theorem one_str_spec {w : World} {mean mg mb} {b : Heap} {s : Shared} {dp un : Nat} {fr : Option (List Env)} {gd : Option (List Code)} {R : Result → Shared → Prop} {l : Addr} {x : Str} {tx : Tok} {vs : List Value} {ns : List Int} {n : Nat}
    (S : Sx w mean mg mb b) (hb : b.StaysIn s.heap) (hlb : b.get? l = none)
    (hl : s.heap.get? l = some (listOf (List.toArray vs) n)) (hi : IntsAre vs ns) (hD : DeckOk ns) (hx0 : 0 < x.cps.size) (hx1 : x.cps.size < 1000) (hroom : dp + 40 < recursionLimit) (hu : un ≤ 8890)
    (ret : ∀ (c i : Nat) t h' tk vs' ns' n', Kp [l] s.heap h' → x.cps[i]? = some c → h'.get? l = some (listOf (List.toArray vs') n') → IntsAre vs' ns' → DeckOk ns' → R (.ok (.ret (.str ⟨#[c]⟩ t))) { s with heap := h', toks := tk }) :
    codeAny (model PySem.Challenge.rw_on0064_01.row.prog w) ⟨none, dp, fr, gd, un⟩ (.call (.ref 202) ⟨[.ref l, .str x tx], []⟩) R s := by
  (have KX9 : Fill Mine.hd.heap_39 PySem.Challenge.rw_on0064_01 := (by k_fill; exact trivial); clear KX9)
  refine' enter (binds := [(Str.ofString "_law_deck", .ref l), (Str.ofString "_law_items", .str x tx)]) S hb [l] (by simp [hlb]) ?ho ?hcd (by show dp < _; omega) ?hbind ?hloc ?_ ?hcell ?c2 ?c3 ?c4
  ((case ho => ((conv => lhs; whnf); (first | (conv in (occs := *) fd9 _ => all_goals whnf) | (conv in (occs := *) md9 _ _ => all_goals whnf)); (try dsimp only); exact rfl)); (case hcd => k_is); (case hbind => exact BindsTo.of_eq rfl); (case hloc => exact locs rfl); (case hcell => decide); (case c2 => exact rfl); (case c3 => exact rfl); (case c4 => exact rfl))
  intro g L h₁ S' hg hL F K1 env9 Q9 E9
  subst hg hL
  have X := S'.X
  have T := S'.T
  have N : News (hideAll s.heap [l]) s.heap.objs.size h₁ [(l, listOf (List.toArray vs) n)] := (news1 K1 hl mw0 News.nil)
  repeat' (first | (k_unfold; (try dsimp only)) | (k_end; kc_close) | (first | ((with_reducible show wpAny _ _ (call (Value.ref _) _ _) _ _ _); k_here; (with_unfolding_all show wpAny _ _ (call (Value.ref 190) [Value.ref _, Value.int _ _]) _ _ _); (refine' draw_call ?k9S ?k9F ?k9N ?k9U ?k9hi ?k9hD ?k9hm0 ?k9hm1 ?k9hA ?k9hroom ?k9hu ?_; (case k9F => k_asm); (case k9S => assumption); (case k9N => k_asm); (case k9U => k_updF); (case k9hi => assumption); (case k9hD => assumption); (case k9hm0 => omega); (case k9hm1 => omega); (case k9hA => rfl); (case k9hroom => (dsimp only [Around.deeper]; omega)); (case k9hu => (dsimp only [Around.deeper]; omega)); k_whole); walk_at "t_draw_call_190")) | walk1 | (dsimp only; walk1) | (leave1; (try dsimp only)))
  refine PySem.P.len_str (by show ¬ ((x.cps.size : Nat) : Int) ≥ _; omega) ?_
  show wpAny _ _ (spliced _) _ _ _
  have hlx : x.length = x.cps.size := rfl
  rw [hlx]
  (try dsimp only)
  repeat' (first | (k_unfold; (try dsimp only)) | (k_end; kc_close) | (first | ((with_reducible show wpAny _ _ (call (Value.ref _) _ _) _ _ _); k_here; (with_unfolding_all show wpAny _ _ (call (Value.ref 190) [Value.ref _, Value.int _ _]) _ _ _); (refine' draw_call ?k9S ?k9F ?k9N ?k9U ?k9hi ?k9hD ?k9hm0 ?k9hm1 ?k9hA ?k9hroom ?k9hu ?_; (case k9F => k_asm); (case k9S => assumption); (case k9N => k_asm); (case k9U => k_updF); (case k9hi => assumption); (case k9hD => assumption); (case k9hm0 => omega); (case k9hm1 => omega); (case k9hA => rfl); (case k9hroom => (dsimp only [Around.deeper]; omega)); (case k9hu => (dsimp only [Around.deeper]; omega)); k_whole); walk_at "t_draw_call_190")) | walk1 | (dsimp only; walk1) | (leave1; (try dsimp only)))
  refine PyProof.Rows.item_str (by unfold fitsSsize; simp; omega) (by rw [hlx]; omega) (by rw [hlx]; omega) ?_
  intro _
  obtain ⟨c, hc1, hc2⟩ := one_item (x := x) (by assumption) (by assumption)
  rw [hc2]
  rename Fr _ _ _ _ => F9
  rename News _ _ _ _ => N9
  exact ret _ _ _ _ _ _ _ _ (kp_of F9) hc1 (N9.get (.head _)) (by assumption) (by assumption)
theorem one_ints_spec {w : World} {mean mg mb} {b : Heap} {s : Shared} {dp un : Nat} {fr : Option (List Env)} {gd : Option (List Code)} {R : Result → Shared → Prop} {l q : Addr} {vs zv : List Value} {ns zs : List Int} {n : Nat}
    (S : Sx w mean mg mb b) (hb : b.StaysIn s.heap) (hlb : b.get? l = none)
    (hl : s.heap.get? l = some (listOf (List.toArray vs) n)) (hi : IntsAre vs ns) (hD : DeckOk ns) (hq : s.heap.IsList q (List.toArray zv)) (hz : IntsAre zv zs) (hlq : @Ne Nat q l) (hx0 : 0 < zs.length) (hx1 : zs.length < 1000) (hroom : dp + 40 < recursionLimit) (hu : un ≤ 8890)
    (ret : ∀ c t h' tk vs' ns' n', Kp [l] s.heap h' → c ∈ zs → h'.get? l = some (listOf (List.toArray vs') n') → IntsAre vs' ns' → DeckOk ns' → R (.ok (.ret (.int c t))) { s with heap := h', toks := tk }) :
    codeAny (model PySem.Challenge.rw_on0064_01.row.prog w) ⟨none, dp, fr, gd, un⟩ (.call (.ref 202) ⟨[.ref l, .ref q], []⟩) R s := by
  (have KX9 : Fill Mine.hd.heap_39 PySem.Challenge.rw_on0064_01 := (by k_fill; exact trivial); clear KX9)
  refine' enter (binds := [(Str.ofString "_law_deck", .ref l), (Str.ofString "_law_items", .ref q)]) S hb [l] (by simp [hlb]) ?ho ?hcd (by show dp < _; omega) ?hbind ?hloc ?_ ?hcell ?c2 ?c3 ?c4
  ((case ho => ((conv => lhs; whnf); (first | (conv in (occs := *) fd9 _ => all_goals whnf) | (conv in (occs := *) md9 _ _ => all_goals whnf)); (try dsimp only); exact rfl)); (case hcd => k_is); (case hbind => exact BindsTo.of_eq rfl); (case hloc => exact locs rfl); (case hcell => decide); (case c2 => exact rfl); (case c3 => exact rfl); (case c4 => exact rfl))
  intro g L h₁ S' hg hL F K1 env9 Q9 E9
  subst hg hL
  have X := S'.X
  have T := S'.T
  have N : News (hideAll s.heap [l]) s.heap.objs.size h₁ [(l, listOf (List.toArray vs) n)] := (news1 K1 hl mw0 News.nil)
  have hB : (hideAll s.heap [l]).IsList q zv.toArray := isList_hide hq (notin1 hlq)
  have hzl := hz.length
  repeat' (first | (k_unfold; (try dsimp only)) | (k_end; kc_close) | (first | ((with_reducible show wpAny _ _ (call (Value.ref _) _ _) _ _ _); k_here; (with_unfolding_all show wpAny _ _ (call (Value.ref 190) [Value.ref _, Value.int _ _]) _ _ _); (refine' draw_call ?k9S ?k9F ?k9N ?k9U ?k9hi ?k9hD ?k9hm0 ?k9hm1 ?k9hA ?k9hroom ?k9hu ?_; (case k9F => k_asm); (case k9S => assumption); (case k9N => k_asm); (case k9U => k_updF); (case k9hi => assumption); (case k9hD => assumption); (case k9hm0 => omega); (case k9hm1 => omega); (case k9hA => rfl); (case k9hroom => (dsimp only [Around.deeper]; omega)); (case k9hu => (dsimp only [Around.deeper]; omega)); k_whole); walk_at "t_draw_call_190")) | walk1 | (dsimp only; walk1) | (leave1; (try dsimp only)))
  rename Fr _ _ _ _ => F9
  rename News _ _ _ _ => N9
  exact ret _ _ _ _ _ _ _ (kp_of F9) (getD_mem (by omega)) (N9.get (.head _)) (by assumption) (by assumption)
end

section
section
variable {w : World} {mean : ExcName → Option Value} {mg mb : Str → Option Value} {g : Heap} {s : Shared} {A : Around} {dp un tk : Nat} {fr : Option (List Env)} {gd : Option (List Code)} {m : Str → Option Value} {L l q : Addr} {x : Str} {tx : Tok} {vs zv : List Value} {ns zs : List Int} {n : Nat}
  {news : List (Addr × Obj)} {E : Value → Shared → Prop} {Q : Value → Shared → Prop} {G : Obj → List (Addr × Obj)}
theorem one_str_call (S : Sx w mean mg mb g) (F : Fr g L s.heap m) (N : News g L s.heap news) (U : UpdF l (listOf (List.toArray vs) n) news G) (hi : IntsAre vs ns) (hD : DeckOk ns) (hx0 : 0 < x.cps.size) (hx1 : x.cps.size < 1000) (hA : A = ⟨none, dp, fr, gd, un⟩) (hroom : dp + 40 < recursionLimit) (hu : un ≤ 8890)
    (k : ∀ (c i : Nat) t h' tk vs' ns' n', x.cps[i]? = some c → IntsAre vs' ns' → DeckOk ns' → Fr g L h' m → News g L h' (G (listOf (List.toArray vs') n')) → Q (.str ⟨#[c]⟩ t) { s with heap := h', toks := tk }) :
    wpAny (model PySem.Challenge.rw_on0064_01.row.prog w) A (call (.ref 202) [.ref l, .str x tx]) Q E s := by
  subst hA
  have hl : (l, listOf (List.toArray vs) n) ∈ news := by
    obtain ⟨pre, post, rfl, _⟩ := U.split
    exact List.mem_append_right _ (.head _)
  refine wpAny_call (one_str_spec S F.keep (N.fresh hl) (N.get hl) hi hD hx0 hx1 hroom hu fun c i t h' tk vs' ns' n' K hc hl' hi' hD' => ?_)
  exact k c i t h' tk vs' ns' n' hc hi' hD' (Fr.kp F K (by simpa using (N _ hl).2.1.symm) (by simpa using (N _ hl).2.2)) (News.updF N U K hl')
theorem one_ints_call (S : Sx w mean mg mb g) (F : Fr g L s.heap m) (N : News g L s.heap news) (U : UpdF l (listOf (List.toArray vs) n) news G) (hi : IntsAre vs ns) (hD : DeckOk ns) (hq : s.heap.IsList q (List.toArray zv)) (hz : IntsAre zv zs) (hlq : @Ne Nat q l) (hx0 : 0 < zs.length) (hx1 : zs.length < 1000) (hA : A = ⟨none, dp, fr, gd, un⟩) (hroom : dp + 40 < recursionLimit) (hu : un ≤ 8890)
    (k : ∀ c t h' tk vs' ns' n', c ∈ zs → IntsAre vs' ns' → DeckOk ns' → Fr g L h' m → News g L h' (G (listOf (List.toArray vs') n')) → Q (.int c t) { s with heap := h', toks := tk }) :
    wpAny (model PySem.Challenge.rw_on0064_01.row.prog w) A (call (.ref 202) [.ref l, .ref q]) Q E s := by
  subst hA
  have hl : (l, listOf (List.toArray vs) n) ∈ news := by
    obtain ⟨pre, post, rfl, _⟩ := U.split
    exact List.mem_append_right _ (.head _)
  refine wpAny_call (one_ints_spec S F.keep (N.fresh hl) (N.get hl) hi hD hq hz hlq hx0 hx1 hroom hu fun c t h' tk vs' ns' n' K hc hl' hi' hD' => ?_)
  exact k c t h' tk vs' ns' n' hc hi' hD' (Fr.kp F K (by simpa using (N _ hl).2.1.symm) (by simpa using (N _ hl).2.2)) (News.updF N U K hl')
end
end

local macro_rules | `(tactic| walk_at "t_one_str_call_202s") => `(tactic| (intro oc oi ot h' tk vs' ns' n' hoc hi' hD' F' N'; (try k_sweep)))
section
theorem src_rng {prog : Program} {w : World} {A : Around} {s₁ : Shared} {h₀ : Heap} {L r : Addr} {d : Int} {t u v : Tok} (hh : A.handled = none) (hr : IsRange s₁.heap r 0 d 1 t u v) (h0 : 0 ≤ d) (h1 : d < 10000) :
    Src prog w A h₀ L (.ref r) s₁ d.toNat (fun i v => ∃ t, v = .int (0 + (i : Int)) t) (fun _ => True) :=
  src_range hh hr (small_one (by omega) (by omega) (by omega) (by omega)) (by rw [rangeSize_nat]; simp)
theorem sign_mem {x : Str} {i c : Nat} (h : x.cps[i]? = some c) : (c : Int) ∈ codesOf x :=
  List.mem_map.mpr ⟨c, by simpa using Array.mem_of_getElem? h, rfl⟩
inductive SdI (s : Shared) (co1 co2 : Obj) (l : Addr) (x : Str) (i : Nat) (ys : List Value) (nw : List (Addr × Obj)) : Prop
  | mk (vs : List Value) (ns : List Int) (n : Nat) (zs : List Int) (e0 : nw = [(s.heap.objs.size + 1 + 1, co1), (s.heap.objs.size + 1, co2), (l, listOf (List.toArray vs) n)]) (e1 : IntsAre vs ns) (e2 : DeckOk ns) (e3 : IntsAre ys zs) (e4 : zs.length = i) (e5 : ∀ c ∈ zs, c ∈ codesOf x) : SdI s co1 co2 l x i ys nw
theorem some_spec {w : World} {mean mg mb} {b : Heap} {s : Shared} {dp un : Nat} {fr : Option (List Env)} {gd : Option (List Code)} {R : Result → Shared → Prop} {l : Addr} {x : Str} {tx tm : Tok} {most : Int} {vs : List Value} {ns : List Int} {n : Nat}
    (S : Sx w mean mg mb b) (hb : b.StaysIn s.heap) (hlb : b.get? l = none)
    (hl : s.heap.get? l = some (listOf (List.toArray vs) n)) (hi : IntsAre vs ns) (hD : DeckOk ns) (hx0 : 0 < x.cps.size) (hx1 : x.cps.size < 1000) (hm0 : 0 ≤ most) (hm1 : most < 100) (hroom : dp + 60 < recursionLimit) (hu : un ≤ 8880)
    (ret : ∀ D zv zs nz h' tk vs' ns' n', Kp [l] s.heap h' → h'.get? l = some (listOf (List.toArray vs') n') → IntsAre vs' ns' → DeckOk ns' → s.heap.get? D = none → h'.get? D = some (listOf (List.toArray zv) nz) → IntsAre zv zs → (zs.length : Int) ≤ most → (∀ c ∈ zs, c ∈ codesOf x) → R (.ok (.ret (.ref D))) { s with heap := h', toks := tk }) :
    codeAny (model PySem.Challenge.rw_on0064_01.row.prog w) ⟨none, dp, fr, gd, un⟩ (.call (.ref 207) ⟨[.ref l, .str x tx, .int most tm], []⟩) R s := by
  (have KX9 : Fill Mine.hd.heap_39 PySem.Challenge.rw_on0064_01 := (by k_fill; exact trivial); clear KX9)
  refine' enterC (binds := [(Str.ofString "_law_deck", .ref l), (Str.ofString "_law_signs", .str x tx), (Str.ofString "_law_most", .int most tm)]) S hb [l] (by simp [hlb]) ?ho ?hcd (by show dp < _; omega) ?hbind ?hk ?hnd ?_ ?c2 ?c3 ?c4
  (case ho => ((conv => lhs; whnf); (first | (conv in (occs := *) fd9 _ => all_goals whnf) | (conv in (occs := *) md9 _ _ => all_goals whnf)); (try dsimp only); exact rfl)); (case hcd => k_is); (case hbind => exact BindsTo.of_eq rfl); (case hk => exact rfl); (case hnd => decide +kernel); (case c2 => exact rfl); (case c3 => exact rfl); (case c4 => exact rfl)
  intro g L h₁ tk₁ cells S' hg hL F K1 NC Y
  subst hg hL
  have X := S'.X
  have T := S'.T
  have N0 : News (hideAll s.heap [l]) s.heap.objs.size h₁ [(l, listOf (List.toArray vs) n)] := (news1 K1 hl mw0 News.nil)
  have N := News.app NC N0
  clear NC N0
  obtain ⟨co1, co2, hE9, cd1, cd2⟩ := PyProof.Rows.CellsAre.two Y; subst hE9; clear Y
  (try simp only [List.cons_append, List.nil_append] at N)
  (try dsimp only)
  have hl9 : @LT.lt Nat _ l s.heap.objs.size := Heap.lt_size hl
  repeat' (first | (k_unfold; (try dsimp only)) | (k_end; kc_close) | (first | ((with_reducible show wpAny _ _ (eval (Expr.ListComp _ _ _ _) _) _ _ _); with_reducible (with_reducible refine Stop.go ?_)) | ((with_reducible show wpAny _ _ (call (Value.ref _) _ _) _ _ _); first | (k_here; (with_unfolding_all show wpAny _ _ (call (Value.ref 202) [Value.ref _, Value.str _ _]) _ _ _); (refine' one_str_call ?k9S ?k9F ?k9N ?k9U ?k9hi ?k9hD ?k9hx0 ?k9hx1 ?k9hA ?k9hroom ?k9hu ?_; (case k9F => k_asm); (case k9S => assumption); (case k9N => k_asm); (case k9U => k_updF); (case k9hi => assumption); (case k9hD => assumption); (case k9hx0 => first | assumption | decide); (case k9hx1 => first | assumption | decide); (case k9hA => rfl); (case k9hroom => walk_at "m_rm"); (case k9hu => walk_at "m_rm"); k_whole); walk_at "t_one_str_call_202s") | (k_here; (with_unfolding_all show wpAny _ _ (call (Value.ref 190) [Value.ref _, Value.int _ _]) _ _ _); (refine' draw_call ?k9S ?k9F ?k9N ?k9U ?k9hi ?k9hD ?k9hm0 ?k9hm1 ?k9hA ?k9hroom ?k9hu ?_; (case k9F => k_asm); (case k9S => assumption); (case k9N => k_asm); (case k9U => k_updF); (case k9hi => assumption); (case k9hD => assumption); (case k9hm0 => first | assumption | omega); (case k9hm1 => first | assumption | omega); (case k9hA => rfl); (case k9hroom => walk_at "m_rm"); (case k9hu => walk_at "m_rm"); k_whole); walk_at "t_draw_call_190")) | ((with_reducible show wpAny _ _ (exec (Stmt.While _ _ _ _) _) _ _ _); with_reducible (with_reducible refine Stop.go ?_))) | walk1 | (dsimp only; walk1) | (leave1; (try dsimp only)))
  refine Stop.go (comp_rule (by assumption) rfl (by decide) rfl (by decide) rfl ?_ (fun _ => rfl))
  repeat' (first | (k_unfold; (try dsimp only)) | (k_end; kc_close) | (first | ((with_reducible show wpAny _ _ (eval (Expr.ListComp _ _ _ _) _) _ _ _); with_reducible (with_reducible refine Stop.go ?_)) | ((with_reducible show wpAny _ _ (call (Value.ref _) _ _) _ _ _); first | (k_here; (with_unfolding_all show wpAny _ _ (call (Value.ref 202) [Value.ref _, Value.str _ _]) _ _ _); (refine' one_str_call ?k9S ?k9F ?k9N ?k9U ?k9hi ?k9hD ?k9hx0 ?k9hx1 ?k9hA ?k9hroom ?k9hu ?_; (case k9F => k_asm); (case k9S => assumption); (case k9N => k_asm); (case k9U => k_updF); (case k9hi => assumption); (case k9hD => assumption); (case k9hx0 => first | assumption | decide); (case k9hx1 => first | assumption | decide); (case k9hA => rfl); (case k9hroom => walk_at "m_rm"); (case k9hu => walk_at "m_rm"); k_whole); walk_at "t_one_str_call_202s") | (k_here; (with_unfolding_all show wpAny _ _ (call (Value.ref 190) [Value.ref _, Value.int _ _]) _ _ _); (refine' draw_call ?k9S ?k9F ?k9N ?k9U ?k9hi ?k9hD ?k9hm0 ?k9hm1 ?k9hA ?k9hroom ?k9hu ?_; (case k9F => k_asm); (case k9S => assumption); (case k9N => k_asm); (case k9U => k_updF); (case k9hi => assumption); (case k9hD => assumption); (case k9hm0 => first | assumption | omega); (case k9hm1 => first | assumption | omega); (case k9hA => rfl); (case k9hroom => walk_at "m_rm"); (case k9hu => walk_at "m_rm"); k_whole); walk_at "t_draw_call_190")) | ((with_reducible show wpAny _ _ (exec (Stmt.While _ _ _ _) _) _ _ _); with_reducible (with_reducible refine Stop.go ?_))) | walk1 | (dsimp only; walk1) | (leave1; (try dsimp only)))
  rename IsRange _ _ _ _ _ _ _ _ => hr
  rename Fr _ _ _ _ => F1
  rename News _ _ _ _ => N1
  rename DeckOk _ => hD1
  rename (_ < most + 1) => dr1
  rename (0 ≤ _) => dr0
  refine CGo.mk (Int.toNat _) (SdI s co1 co2 l x) F1 N1 (src_rng rfl hr dr0 (by omega)) rfl (by omega) (fun _ _ _ _ => trivial) ⟨_, _, _, [], rfl, by assumption, hD1, .nil, rfl, by simp⟩ ?_ ?_
  · rintro i ys nw hi' ⟨vs, ns, n, zs, rfl, hi2, hD2, hz, hzl, hzc⟩ v I oI C oC D m₂ h tk E' ⟨t, rfl⟩ hC hx F₁ N₁ off ne
    have off0 := off
    simp only [LCg.Off3, and_true] at off0
    (try dsimp only)
    repeat' (first | (k_unfold; (try dsimp only)) | (k_end; kc_close) | (first | ((with_reducible show wpAny _ _ (eval (Expr.ListComp _ _ _ _) _) _ _ _); with_reducible (with_reducible refine Stop.go ?_)) | ((with_reducible show wpAny _ _ (call (Value.ref _) _ _) _ _ _); first | (k_here; (with_unfolding_all show wpAny _ _ (call (Value.ref 202) [Value.ref _, Value.str _ _]) _ _ _); (refine' one_str_call ?k9S ?k9F ?k9N ?k9U ?k9hi ?k9hD ?k9hx0 ?k9hx1 ?k9hA ?k9hroom ?k9hu ?_; (case k9F => k_asm); (case k9S => assumption); (case k9N => k_asm); (case k9U => k_updF); (case k9hi => assumption); (case k9hD => assumption); (case k9hx0 => first | assumption | decide); (case k9hx1 => first | assumption | decide); (case k9hA => rfl); (case k9hroom => walk_at "m_rm"); (case k9hu => walk_at "m_rm"); k_whole); walk_at "t_one_str_call_202s") | (k_here; (with_unfolding_all show wpAny _ _ (call (Value.ref 190) [Value.ref _, Value.int _ _]) _ _ _); (refine' draw_call ?k9S ?k9F ?k9N ?k9U ?k9hi ?k9hD ?k9hm0 ?k9hm1 ?k9hA ?k9hroom ?k9hu ?_; (case k9F => k_asm); (case k9S => assumption); (case k9N => k_asm); (case k9U => k_updF); (case k9hi => assumption); (case k9hD => assumption); (case k9hm0 => first | assumption | omega); (case k9hm1 => first | assumption | omega); (case k9hA => rfl); (case k9hroom => walk_at "m_rm"); (case k9hu => walk_at "m_rm"); k_whole); walk_at "t_draw_call_190")) | ((with_reducible show wpAny _ _ (exec (Stmt.While _ _ _ _) _) _ _ _); with_reducible (with_reducible refine Stop.go ?_))) | walk1 | (dsimp only; walk1) | (leave1; (try dsimp only)))
    refine CEnd.mk _ (by k_asm) (by k_asm) (fun p hp => hp) (by simp only [LCg.Off3, and_true]; exact off0) ⟨_, _, _, zs ++ [_], rfl, by assumption, by assumption, ints_push hz, by simp [hzl], fun c hc => ?_⟩
    rcases List.mem_append.mp hc with hc | hc
    · exact hzc c hc
    · obtain rfl := List.mem_singleton.mp hc
      exact sign_mem (by assumption)
  · rintro ys nw gg ⟨vs, ns, n, zs, rfl, hi2, hD2, hz, hzl, hzc⟩ D h tk F₁ N₁ off
    have hzm : (zs.length : Int) ≤ most := by clear hi2 hD2; omega
    simp only [LCg.Off1, and_true] at off
    (try dsimp only)
    repeat' (first | (k_unfold; (try dsimp only)) | (k_end; kc_close) | (first | ((with_reducible show wpAny _ _ (eval (Expr.ListComp _ _ _ _) _) _ _ _); with_reducible (with_reducible refine Stop.go ?_)) | ((with_reducible show wpAny _ _ (call (Value.ref _) _ _) _ _ _); first | (k_here; (with_unfolding_all show wpAny _ _ (call (Value.ref 202) [Value.ref _, Value.str _ _]) _ _ _); (refine' one_str_call ?k9S ?k9F ?k9N ?k9U ?k9hi ?k9hD ?k9hx0 ?k9hx1 ?k9hA ?k9hroom ?k9hu ?_; (case k9F => k_asm); (case k9S => assumption); (case k9N => k_asm); (case k9U => k_updF); (case k9hi => assumption); (case k9hD => assumption); (case k9hx0 => first | assumption | decide); (case k9hx1 => first | assumption | decide); (case k9hA => rfl); (case k9hroom => walk_at "m_rm"); (case k9hu => walk_at "m_rm"); k_whole); walk_at "t_one_str_call_202s") | (k_here; (with_unfolding_all show wpAny _ _ (call (Value.ref 190) [Value.ref _, Value.int _ _]) _ _ _); (refine' draw_call ?k9S ?k9F ?k9N ?k9U ?k9hi ?k9hD ?k9hm0 ?k9hm1 ?k9hA ?k9hroom ?k9hu ?_; (case k9F => k_asm); (case k9S => assumption); (case k9N => k_asm); (case k9U => k_updF); (case k9hi => assumption); (case k9hD => assumption); (case k9hm0 => first | assumption | omega); (case k9hm1 => first | assumption | omega); (case k9hA => rfl); (case k9hroom => walk_at "m_rm"); (case k9hu => walk_at "m_rm"); k_whole); walk_at "t_draw_call_190")) | ((with_reducible show wpAny _ _ (exec (Stmt.While _ _ _ _) _) _ _ _); with_reducible (with_reducible refine Stop.go ?_))) | walk1 | (dsimp only; walk1) | (leave1; (try dsimp only)))
    exact ret D ys zs _ _ _ _ _ _ (kp_of F₁) (N₁.get (by k_mem)) hi2 hD2 (fresh_of N₁ (.head _) (notin1 (by omega))) (N₁.get (.head _)) hz hzm hzc
end

section
noncomputable def Rels {α : Type} (Rel : Addr → α → Prop) : List Value → List α → Prop
  | [], [] => True
  | v :: vs, e :: es => (∃ a, v = .ref a ∧ Rel a e) ∧ Rels Rel vs es
  | _, _ => False
section
variable {α : Type} {Rel Rel' : Addr → α → Prop}
theorem Rels.mono (k : ∀ a e, Rel a e → Rel' a e) : ∀ {vs : List Value} {es : List α}, Rels Rel vs es → Rels Rel' vs es
  | [], [], _ => trivial
  | _ :: _, _ :: _, ⟨⟨a, e, x⟩, r⟩ => ⟨⟨a, e, k _ _ x⟩, r.mono k⟩
  | [], _ :: _, x => x.elim
  | _ :: _, [], x => x.elim
theorem Rels.snoc {a : Addr} {e : α} (y : Rel a e) : ∀ {vs : List Value} {es : List α}, Rels Rel vs es → Rels Rel (vs ++ [.ref a]) (es ++ [e])
  | [], [], _ => ⟨⟨a, rfl, y⟩, trivial⟩
  | _ :: _, _ :: _, ⟨x, r⟩ => ⟨x, Rels.snoc y r⟩
  | [], _ :: _, x => x.elim
  | _ :: _, [], x => x.elim
theorem Rels.length : ∀ {vs : List Value} {es : List α}, Rels Rel vs es → vs.length = es.length
  | [], [], _ => rfl
  | _ :: _, _ :: _, ⟨_, r⟩ => congrArg (· + 1) r.length
  | [], _ :: _, x => x.elim
  | _ :: _, [], x => x.elim
theorem Rels.at : ∀ {vs : List Value} {es : List α} {i : Nat} {v : Value}, Rels Rel vs es → vs[i]? = some v → ∃ a e, v = .ref a ∧ es[i]? = some e ∧ Rel a e
  | _ :: _, _ :: _, 0, v, ⟨⟨a, h, x⟩, _⟩, hv => by simp at hv; exact ⟨a, _, by rw [← hv, h], by simp, x⟩
  | _ :: _, _ :: _, i + 1, v, ⟨_, r⟩, hv => by
    obtain ⟨a, e, h1, h2, h3⟩ := r.at (i := i) (by simpa using hv)
    exact ⟨a, e, h1, by simpa using h2, h3⟩
  | [], [], _, _, _, hv => by simp at hv
  | [], _ :: _, _, _, x, _ => x.elim
  | _ :: _, [], _, _, x, _ => x.elim
end
inductive TupIn (ex : List (Addr × Obj)) (a : Addr) (e : Ent) : Prop
  | mk (wa : Addr) (ta : Addr) (tu : Tok) (n : Nat) (vw : List Value) (nw : Nat) (vt : List Value) (nt : Nat) (e0 : (a, tupOf [.ref wa, .int e.2.1 tu, .ref ta, .bool e.2.2.2] n) ∈ ex) (e1 : (wa, listOf (List.toArray vw) nw) ∈ ex) (e2 : IntsAre vw e.1) (e3 : (ta, listOf (List.toArray vt) nt) ∈ ex) (e4 : IntsAre vt e.2.2.1) : TupIn ex a e
theorem TupIn.mono {ex ex' : List (Addr × Obj)} {a : Addr} {e : Ent} (x : TupIn ex a e) (k : ∀ p ∈ ex, p ∈ ex') : TupIn ex' a e :=
  let ⟨wa, ta, tu, n, vw, nw, vt, nt, h1, h2, h3, h4, h5⟩ := x
  ⟨wa, ta, tu, n, vw, nw, vt, nt, k _ h1, k _ h2, h3, k _ h4, h5⟩
section
variable {w : World} {mean : ExcName → Option Value} {mg mb : Str → Option Value} {g : Heap} {s : Shared} {A : Around} {dp un tk : Nat} {fr : Option (List Env)} {gd : Option (List Code)} {m : Str → Option Value} {L l : Addr} {at_ : Nat} {t1 : Tok} {vs : List Value} {cs : List Int}
  {news : List (Addr × Obj)} {E : Value → Shared → Prop} {Q : Value → Shared → Prop}
theorem lentry_call (S : Sx w mean mg mb g) (F : Fr g L s.heap m) (N : News g L s.heap news) (hl : s.heap.IsList l vs.toArray) (hi : IntsAre vs cs) (hlen : cs.length < 500) (hat : at_ ≤ cs.length) (hcs : ∀ c ∈ cs, 0 ≤ c ∧ c < 1000000) (hA : A = ⟨none, dp, fr, gd, un⟩) (hroom : dp + 20 < recursionLimit) (hu : un ≤ 8900)
    (k0 : entryAt cs at_ = none → ∀ h' tk, Fr g L h' m → News g L h' news → Q .none { s with heap := h', toks := tk })
    (k1 : ∀ en p', entryAt cs at_ = some (en, p') → ∀ tt te k ex h' tk, TupIn ex te en → (∀ p ∈ (tt, tupOf [.ref te, .int ((p' : Nat) : Int) k] 0) :: ex, AllNe p.1 news) → Fr g L h' m → News g L h' ((tt, tupOf [.ref te, .int ((p' : Nat) : Int) k] 0) :: (news ++ ex)) → Q (.ref tt) { s with heap := h', toks := tk }) :
    wpAny (model PySem.Challenge.rw_on0064_01.row.prog w) A (call (.ref 231) [.ref l, .int ((at_ : Nat) : Int) t1]) Q E s := by
  subst hA
  refine wpAny_call (lentry_spec S F.keep hl hi hlen hroom hu hat hcs fun v h' tk K q => ?_)
  have F' := Fr.kp0 F K
  have N' := News.kp0 N K
  unfold LRes at q
  cases hq : entryAt cs at_ with
  | none => rw [hq] at q; dsimp only at q; subst q; exact k0 hq h' tk F' N'
  | some x =>
    obtain ⟨⟨w0, u, t, e⟩, p'⟩ := x
    rw [hq] at q
    obtain ⟨tt, te, fw, ft, tu, k, vw, nw, vt, nt, rfl, ⟨n1, n2, n3, n4⟩, e1, e2, e3, hw, e4, ht⟩ := q
    have ne : ∀ {d : Addr}, s.heap.get? d = none → AllNe d news := fun hd => allNe_of fun p hp q => by
      have z := (N p hp).1
      rw [q, hd] at z; cases z
    have M := News.add F K (News.add F K (News.add F K (News.add F K N' n4 e4) n3 e3) n2 e2) n1 e1
    refine k1 (w0, u, t, e) p' hq tt te k [(te, tupOf [.ref fw, .int u tu, .ref ft, .bool e] 0), (fw, listOf (List.toArray vw) nw), (ft, listOf (List.toArray vt) nt)] h' tk ⟨fw, ft, tu, 0, vw, nw, vt, nt, by simp, by simp, hw, by simp, ht⟩ ?_ F' (News.sub M ?_)
    · intro p hp
      simp only [List.mem_cons, List.not_mem_nil, or_false] at hp
      rcases hp with rfl | rfl | rfl | rfl
      · exact ne n1
      · exact ne n2
      · exact ne n3
      · exact ne n4
    · intro p hp
      simp only [List.mem_cons, List.mem_append, List.not_mem_nil, or_false] at hp ⊢
      rcases hp with rfl | hp | rfl | rfl | rfl
      · exact .inl rfl
      · exact .inr (.inr (.inr (.inr hp)))
      · exact .inr (.inl rfl)
      · exact .inr (.inr (.inl rfl))
      · exact .inr (.inr (.inr (.inl rfl)))
end
local macro_rules | `(tactic| k_mem) => `(tactic| with_reducible assumption)
local macro_rules | `(tactic| k_all) => `(tactic| with_reducible assumption)
noncomputable def LEnts (cs : List Int) (h₀ : Heap) (v : Value) (h : Heap) : Prop :=
  match entsOf cs with
  | none => v = .none
  | some es => ∃ D vs n ex, v = .ref D ∧ h₀.get? D = none ∧ h.get? D = some (listOf (List.toArray vs) n) ∧ Rels (TupIn ex) vs es ∧ ∀ p ∈ ex, h.get? p.1 = some p.2 ∧ h₀.get? p.1 = none
inductive EntsI (s : Shared) (l fl : Addr) (cs : List Int) (k : Nat) (s' : Shared) : Prop
  | mk (h' : Heap) (tk : Nat) (m : Str → Option Value) (acc : List Value) (es : List Ent) (na : Nat) (p : Nat) (tp : Tok) (ex : List (Addr × Obj)) (e0 : s' = { s with heap := h', toks := tk }) (e1 : Fr (hideAll s.heap []) s.heap.objs.size h' m) (e2 : m (Str.ofString "_law_codes") = some (.ref l)) (e3 : m (Str.ofString "_law_found") = some (.ref fl)) (e4 : m (Str.ofString "_law_at") = some (.int ((p : Nat) : Int) tp)) (e5 : News (hideAll s.heap []) s.heap.objs.size h' ((fl, listOf (List.toArray acc) na) :: ex)) (e6 : (∀ q ∈ ex, q.1 ≠ fl)) (e7 : Rels (TupIn ex) acc es) (e8 : p ≤ cs.length) (e9 : es.length ≤ p) (e10 : k = cs.length - p) (e11 : EInv (entsOf cs) cs p es) : EntsI s l fl cs k s'
theorem lents_spec {w : World} {mean mg mb} {b : Heap} {s : Shared} {dp un : Nat} {fr : Option (List Env)} {gd : Option (List Code)} {R : Result → Shared → Prop} {l : Addr} {vs : List Value} {cs : List Int}
    (S : Sx w mean mg mb b) (hb : b.StaysIn s.heap)
    (hl : s.heap.IsList l vs.toArray) (hi : IntsAre vs cs) (hlen : cs.length < 500) (hcs : ∀ c ∈ cs, 0 ≤ c ∧ c < 1000000) (hroom : dp + 40 < recursionLimit) (hu : un ≤ 8890)
    (ret : ∀ v h' tk, Kp [] s.heap h' → LEnts cs s.heap v h' → R (.ok (.ret v)) { s with heap := h', toks := tk }) :
    codeAny (model PySem.Challenge.rw_on0064_01.row.prog w) ⟨none, dp, fr, gd, un⟩ (.call (.ref 238) ⟨[.ref l], []⟩) R s := by
  (have KX9 : Fill Mine.hd.heap_39 PySem.Challenge.rw_on0064_01 := (by k_fill; exact trivial); clear KX9)
  refine' enter (binds := [(Str.ofString "_law_codes", .ref l)]) S hb [] (by simp) ?ho ?hcd (by show dp < _; omega) ?hbind ?hloc ?_ ?hcell ?c2 ?c3 ?c4
  ((case ho => ((conv => lhs; whnf); (first | (conv in (occs := *) fd9 _ => all_goals whnf) | (conv in (occs := *) md9 _ _ => all_goals whnf)); (try dsimp only); exact rfl)); (case hcd => k_is); (case hbind => exact BindsTo.of_eq rfl); (case hloc => exact locs rfl); (case hcell => decide); (case c2 => exact rfl); (case c3 => exact rfl); (case c4 => exact rfl))
  intro g L h₁ S' hg hL F K1 env9 Q9 E9
  subst hg hL
  have X := S'.X
  have T := S'.T
  have N : News (hideAll s.heap []) s.heap.objs.size h₁ [] := News.nil
  have hB : (hideAll s.heap []).IsList l vs.toArray := isList_hide hl (by simp)
  have hvl := hi.length
  repeat' (first | (k_unfold; (try dsimp only)) | (k_end; kc_close) | (first | ((with_reducible show wpAny _ _ (call (Value.ref _) _ _) _ _ _); first | ((with_unfolding_all show wpAny _ _ (call (Value.ref 231) [Value.ref _, Value.int _ _]) _ _ _); with_reducible refine Stop.go ?_) | (k_here; (with_unfolding_all show wpAny _ _ (call (Value.ref 226) [Value.ref _, Value.int _ _]) _ _ _); (refine' q_call ?k9S ?k9F ?k9N ?k9hl ?k9hi ?k9hlen ?k9h0 ?k9hat ?k9hA ?k9hroom ?k9hu ?_ ?_; (case k9F => k_asm); (case k9N => k_asm); (case k9S => assumption); (case k9hl => is_list); (case k9hi => l_ints); (case k9hlen => walk_at "m_rm"); (case k9h0 => first | assumption | omega); (case k9hat => first | assumption | omega); (case k9hA => rfl); (case k9hroom => walk_at "m_rm"); (case k9hu => walk_at "m_rm")); walk_at "t_q_call_226")) | ((with_reducible show wpAny _ _ (exec (Stmt.While _ _ _ _) _) _ _ _); with_reducible (with_reducible refine Stop.go ?_))) | walk1 | (dsimp only; walk1) | (leave1; (try dsimp only)))
  rename Fr _ _ _ _ => F0
  rename News _ _ _ _ => N0
  rename_i fl _ _ _ _ _ _ _ _
  refine Stop.go (while_rule2 (EntsI s l fl cs)
      (fun s' => Stop (∃ h' tk m acc es na ex, s' = { s with heap := h', toks := tk } ∧ Fr (hideAll s.heap []) s.heap.objs.size h' m ∧ m (Str.ofString "_law_found") = some (.ref fl)
      ∧ News (hideAll s.heap []) s.heap.objs.size h' ((fl, listOf (List.toArray acc) na) :: ex) ∧ Rels (TupIn ex) acc es ∧ entsOf cs = some es)) (cs.length) ?_ ?_ ?_)
  · exact ⟨_, _, _, [], [], _, 0, _, [], rfl, F0, rfl, rfl, rfl, News.sub (news' := [(fl, listOf (List.toArray []) 0)]) N0 (fun p hp => .tail _ hp), by simp, trivial, by omega, by simp, rfl, EInv.start cs⟩
  · rintro k s' ⟨h', tk, m, acc, es, na, p, tp, ex, rfl, F2, m1, m2, m3, N2, q1, hab, hp, hel, rfl, hI⟩
    repeat' (first | (k_unfold; (try dsimp only)) | (k_end; kc_close) | (first | ((with_reducible show wpAny _ _ (call (Value.ref _) _ _) _ _ _); first | ((with_unfolding_all show wpAny _ _ (call (Value.ref 231) [Value.ref _, Value.int _ _]) _ _ _); with_reducible refine Stop.go ?_) | (k_here; (with_unfolding_all show wpAny _ _ (call (Value.ref 226) [Value.ref _, Value.int _ _]) _ _ _); (refine' q_call ?k9S ?k9F ?k9N ?k9hl ?k9hi ?k9hlen ?k9h0 ?k9hat ?k9hA ?k9hroom ?k9hu ?_ ?_; (case k9F => k_asm); (case k9N => k_asm); (case k9S => assumption); (case k9hl => is_list); (case k9hi => l_ints); (case k9hlen => walk_at "m_rm"); (case k9h0 => first | assumption | omega); (case k9hat => first | assumption | omega); (case k9hA => rfl); (case k9hroom => walk_at "m_rm"); (case k9hu => walk_at "m_rm")); walk_at "t_q_call_226")) | ((with_reducible show wpAny _ _ (exec (Stmt.While _ _ _ _) _) _ _ _); with_reducible (with_reducible refine Stop.go ?_))) | walk1 | (dsimp only; walk1) | (leave1; (try dsimp only)))
    · rename (_ < _) => hlt
      have hlt' : p < cs.length := by omega
      refine Stop.go (lentry_call S' (by k_asm) (by k_asm) (by is_list) hi hlen hp hcs rfl (by dsimp only [Around.deeper]; omega) (by dsimp only [Around.deeper]; omega) ?_ ?_)
      · intro hbad h2 tk2 F3 N3
        (try dsimp only)
        repeat' (first | (k_unfold; (try dsimp only)) | (k_end; kc_close) | (first | ((with_reducible show wpAny _ _ (call (Value.ref _) _ _) _ _ _); first | ((with_unfolding_all show wpAny _ _ (call (Value.ref 231) [Value.ref _, Value.int _ _]) _ _ _); with_reducible refine Stop.go ?_) | (k_here; (with_unfolding_all show wpAny _ _ (call (Value.ref 226) [Value.ref _, Value.int _ _]) _ _ _); (refine' q_call ?k9S ?k9F ?k9N ?k9hl ?k9hi ?k9hlen ?k9h0 ?k9hat ?k9hA ?k9hroom ?k9hu ?_ ?_; (case k9F => k_asm); (case k9N => k_asm); (case k9S => assumption); (case k9hl => is_list); (case k9hi => l_ints); (case k9hlen => walk_at "m_rm"); (case k9h0 => first | assumption | omega); (case k9hat => first | assumption | omega); (case k9hA => rfl); (case k9hroom => walk_at "m_rm"); (case k9hu => walk_at "m_rm")); walk_at "t_q_call_226")) | ((with_reducible show wpAny _ _ (exec (Stmt.While _ _ _ _) _) _ _ _); with_reducible (with_reducible refine Stop.go ?_))) | walk1 | (dsimp only; walk1) | (leave1; (try dsimp only)))
        rename Fr _ _ _ _ => F9
        exact ret _ _ _ (kp_of F9) (by unfold LEnts; rw [hI.bad hlt' hbad])
      · intro en p' hq tt te k ex' h2 tk2 hT hne F3 N3
        have hpp := entryAt_lt hq
        have hJ := hI.go hlt' hq
        have r1 : ∀ q ∈ ex ++ ex', q.1 ≠ fl := fun q hq2 e => by
          rcases List.mem_append.mp hq2 with z | z
          · exact q1 q z e
          · exact (hne q (.tail _ z)).1 e.symm
        have tne : @Ne Nat tt fl := fun e => (hne _ (.head _)).1 e.symm
        have hab' := (hab.mono (Rel' := TupIn (ex ++ ex')) (fun a e x => x.mono fun p hp => List.mem_append_left _ hp)).snoc (hT.mono (ex' := ex ++ ex') fun p hp => List.mem_append_right _ hp)
        have N4 := News.sub (news' := (tt, tupOf [.ref te, .int ((p' : Nat) : Int) k] 0) :: (fl, listOf (List.toArray acc) na) :: (ex ++ ex')) N3 (fun p hp => by simpa using hp)
        have hm1 : (tt, tupOf [.ref te, .int ((p' : Nat) : Int) k] 0) ∈ (tt, tupOf [.ref te, .int ((p' : Nat) : Int) k] 0) :: (fl, listOf (List.toArray acc) na) :: (ex ++ ex') := .head _
        have hm2 : (fl, listOf (List.toArray acc) na) ∈ (tt, tupOf [.ref te, .int ((p' : Nat) : Int) k] 0) :: (fl, listOf (List.toArray acc) na) :: (ex ++ ex') := .tail _ (.head _)
        clear N3 N2 hab q1 F2 hne hT
        generalize ex ++ ex' = exx at *
        have hacc := hab'.length
        simp only [List.length_append, List.length_singleton] at hacc
        (try dsimp only)
        repeat' (first | (k_unfold; (try dsimp only)) | (k_end; kc_close) | (first | ((with_reducible show wpAny _ _ (call (Value.ref _) _ _) _ _ _); first | ((with_unfolding_all show wpAny _ _ (call (Value.ref 231) [Value.ref _, Value.int _ _]) _ _ _); with_reducible refine Stop.go ?_) | (k_here; (with_unfolding_all show wpAny _ _ (call (Value.ref 226) [Value.ref _, Value.int _ _]) _ _ _); (refine' q_call ?k9S ?k9F ?k9N ?k9hl ?k9hi ?k9hlen ?k9h0 ?k9hat ?k9hA ?k9hroom ?k9hu ?_ ?_; (case k9F => k_asm); (case k9N => k_asm); (case k9S => assumption); (case k9hl => is_list); (case k9hi => l_ints); (case k9hlen => walk_at "m_rm"); (case k9h0 => first | assumption | omega); (case k9hat => first | assumption | omega); (case k9hA => rfl); (case k9hroom => walk_at "m_rm"); (case k9hu => walk_at "m_rm")); walk_at "t_q_call_226")) | ((with_reducible show wpAny _ _ (exec (Stmt.While _ _ _ _) _) _ _ _); with_reducible (with_reducible refine Stop.go ?_))) | walk1 | (dsimp only; walk1) | (leave1; (try dsimp only)))
        rename Fr _ _ _ _ => F9
        rename News _ _ _ _ => N9
        exact ⟨cs.length - p', by omega, _, _, _, acc ++ [.ref te], es ++ [en], _, p', k, exx, rfl, F9, m1, m2, rfl, News.sub N9 (fun p hp => .tail _ hp), r1, hab', by omega, by simp; omega, rfl, hJ⟩
    · exact Stop.go ⟨_, _, m, acc, es, na, ex, rfl, F2, m2, N2, hab, hI.stop (by omega)⟩
  · rintro s' ⟨h', tk, m, acc, es, na, ex, rfl, F2, m1, N2, hab, hW⟩
    (try dsimp only)
    repeat' (first | (k_unfold; (try dsimp only)) | (k_end; kc_close) | (first | ((with_reducible show wpAny _ _ (call (Value.ref _) _ _) _ _ _); first | ((with_unfolding_all show wpAny _ _ (call (Value.ref 231) [Value.ref _, Value.int _ _]) _ _ _); with_reducible refine Stop.go ?_) | (k_here; (with_unfolding_all show wpAny _ _ (call (Value.ref 226) [Value.ref _, Value.int _ _]) _ _ _); (refine' q_call ?k9S ?k9F ?k9N ?k9hl ?k9hi ?k9hlen ?k9h0 ?k9hat ?k9hA ?k9hroom ?k9hu ?_ ?_; (case k9F => k_asm); (case k9N => k_asm); (case k9S => assumption); (case k9hl => is_list); (case k9hi => l_ints); (case k9hlen => walk_at "m_rm"); (case k9h0 => first | assumption | omega); (case k9hat => first | assumption | omega); (case k9hA => rfl); (case k9hroom => walk_at "m_rm"); (case k9hu => walk_at "m_rm")); walk_at "t_q_call_226")) | ((with_reducible show wpAny _ _ (exec (Stmt.While _ _ _ _) _) _ _ _); with_reducible (with_reducible refine Stop.go ?_))) | walk1 | (dsimp only; walk1) | (leave1; (try dsimp only)))
    (try dsimp only)
    refine ret _ _ _ (kp_of F2) ?_
    unfold LEnts
    rw [hW]
    exact ⟨fl, acc, na, ex, rfl, fresh_of N2 (.head _) (by simp), N2.get (.head _), hab, fun p hp => ⟨N2.get (.tail _ hp), fresh_of N2 (.tail _ hp) (by simp)⟩⟩
end

section
local macro_rules | `(tactic| k_mem) => `(tactic| with_reducible assumption)
local macro_rules | `(tactic| k_all) => `(tactic| with_reducible assumption)
noncomputable def dfltE : Ent := ([], 0, [], false)
noncomputable def rowE (e : Ent) : List Int := rowF e.1 e.2.1 e.2.2.1 e.2.2.2
noncomputable def wordAt (es : List Ent) (i : Nat) : List Int := (es.getD i dfltE).1
noncomputable def orderE (es : List Ent) : List Nat := order (fun i j => ltL (wordAt es i) (wordAt es j)) es.length
noncomputable def textF (es : List Ent) : List Int := (orderE es).flatMap fun i => rowE (es.getD i dfltE)
section
variable {w : World} {mean : ExcName → Option Value} {mg mb : Str → Option Value} {g : Heap} {s : Shared} {A : Around} {dp un tk : Nat} {fr : Option (List Env)} {gd : Option (List Code)} {m : Str → Option Value} {L ax : Addr} {hd : Option Value} {en : Ent}
  {news : List (Addr × Obj)} {E : Value → Shared → Prop} {Q : Value → Shared → Prop}
theorem etext_call (S : Sx w mean mg mb g) (hH : HOk hd g) (F : Fr g L s.heap m) (N : News g L s.heap news) (hAb : AbIn w.params news ax en) (hok : EntOk en) (hA : A = ⟨hd, dp, fr, gd, un⟩) (hroom : dp + 20 < recursionLimit)
    (k : ∀ D vs' n' h' tk, AllNe D news → Fr g L h' m → News g L h' ((D, listOf (List.toArray vs') n') :: news) → IntsAre vs' (rowE en) → vs'.length = (rowE en).length → Q (.ref D) { s with heap := h', toks := tk }) :
    wpAny (model PySem.Challenge.rw_on0064_01.row.prog w) A (call (.ref 94) [.ref ax]) Q E s := by
  subst hA
  exact wpAny_call (etext_spec S hH F.keep (hAb.at fun p hp => ⟨(N p hp).1, (N p hp).2.2⟩) (by have := hok.1; omega) (by have := hok.2.1; omega) hok.2.2.2.2.2 hroom (newInts_call F N k))
theorem eword_call {news' : List (Addr × Obj)} (S : Sx w mean mg mb g) (hH : HOk hd g) (F : Fr g L s.heap m) (N : News g L s.heap news') (hsub : ∀ p ∈ news, p ∈ news') (hAb : AbIn w.params news ax en) (hA : A = ⟨hd, dp, fr, gd, un⟩) (hroom : dp + 20 < recursionLimit)
    (k : ∀ wa vw nw h' tk, (wa, listOf (List.toArray vw) nw) ∈ news → IntsAre vw en.1 → Fr g L h' m → News g L h' news' → Q (.ref wa) { s with heap := h', toks := tk }) :
    wpAny (model PySem.Challenge.rw_on0064_01.row.prog w) A (call (.ref 101) [.ref ax]) Q E s := by
  subst hA
  refine wpAny_call (eword_spec S hH F.keep (hAb.at fun p hp => ⟨(N p (hsub p hp)).1, (N p (hsub p hp)).2.2⟩) hroom fun wa h' tk vw K hw hi q => ?_)
  obtain ⟨adx, ta, t1, t2, t3, t4, t5, z1, z2⟩ := q
  obtain ⟨adx', wa', ta', u1, u2, u3, u4, u5, vw', nw', vt', nt', y1, y2, y3, y4, y5, y6⟩ := hAb
  have e1 := z1.symm.trans (N.get (hsub _ y1))
  simp only [Option.some.injEq, abObj, instObj, Obj.mk.injEq, true_and, and_true] at e1
  subst e1
  have e2 := z2.symm.trans (N.get (hsub _ y2))
  simp only [Option.some.injEq, abDict, dictOf, Obj.mk.injEq, Data.dict.injEq, true_and, and_true, Array.mk.injEq, List.cons.injEq, DictEntry.mk.injEq, Value.ref.injEq] at e2
  have e3 : wa = wa' := e2.1.2
  subst e3
  exact k wa vw' nw' h' tk y3 y4 (Fr.kp0 F K) (News.kp0 N K)
end
theorem showF_len : ∀ cs : List Int, (showF cs).length ≤ 2 * cs.length + 2 := fun cs => by
  have := esc_len cs
  unfold showF
  simp only [List.length_append, List.length_cons, List.length_nil]
  omega
theorem rowE_len {e : Ent} (h : EntOk e) : 1 ≤ (rowE e).length ∧ (rowE e).length ≤ 5000 := by
  have h1 := showF_len e.1
  have h2 := showF_len e.2.2.1
  have h3 : (digF e.2.1).length ≤ 600 := by
    unfold digF codesOf
    simpa using textOf_size h.2.2.2.2.2
  obtain ⟨q1, q2, _⟩ := h
  unfold rowE rowF
  have h4 : (if e.2.2.2 = true then [32, 101, 120, 97, 99, 116] else ([] : List Int)).length ≤ 6 := by split <;> simp
  simp only [List.length_append, List.length_cons, List.length_nil]
  omega
theorem flat_len {f : Nat → List Int} {k : Nat} : ∀ l : List Nat, (∀ x ∈ l, (f x).length ≤ k) → (l.flatMap f).length ≤ k * l.length
  | [], _ => by simp
  | x :: l, h => by
    have h1 := h x (.head _)
    have h2 := flat_len l fun y hy => h y (.tail _ hy)
    simp only [List.flatMap_cons, List.length_append, List.length_cons, Nat.mul_add, Nat.mul_one]
    omega
theorem kept_led {h h' : Heap} {led : List (Addr × Obj)} (a : ∀ p ∈ led, h.get? p.1 = some p.2) (b : ∀ p ∈ led, h'.get? p.1 = some p.2) : ∀ a ∈ led.map (·.1), a ∉ ([] : List Addr) → ∀ o, h.get? a = some o → h'.get? a = some o := by
  intro x hx _ o e
  obtain ⟨p, hp, rfl⟩ := List.mem_map.mp hx
  rw [a p hp] at e; cases e
  exact b p hp
theorem stB {fa : List Int} {es : List Ent} {i : Nat} (hok : ∀ e ∈ es, EntOk e) (h64 : es.length < 64) (hfa : fa = ((orderE es).take i).flatMap fun i => rowE (es.getD i dfltE)) : fa.length ≤ 5000 * 64 := by
  have h1 := flat_len (f := fun i => rowE (es.getD i dfltE)) (k := 5000) ((orderE es).take i) fun x hx => by
    have h2 := order_lt x (List.mem_of_mem_take hx)
    have h3 : es[x]? = some (es.getD x dfltE) := by rw [List.getD_eq_getElem?_getD, List.getElem?_eq_getElem h2]; rfl
    exact (rowE_len (hok _ (List.mem_of_getElem? h3))).2
  rw [← hfa] at h1
  have h4 : ((orderE es).take i).length ≤ 64 := by rw [List.length_take, show (orderE es).length = es.length from order_len _ _]; omega
  omega
inductive TtI (w : World) (s : Shared) (fl : Addr) (co1 : Obj) (tx tdx en pa : Addr) (nm : Str) (u0 u1 u2 u3 u4 : Tok) (oE : Obj) (ex : List (Addr × Obj)) (kvs : List (Str × Value)) (es : List Ent) (D D2 : Addr) (n2 : Nat) (i : Nat) (m : Str → Option Value) (nw : List (Addr × Obj)) : Prop
  | mk (e0 : m (Str.ofString "codes") = some (.ref fl)) (acc : List Value) (na : Nat) (fa : List Int) (e1 : IntsAre acc fa) (e2 : fa = ((orderE es).take i).flatMap (fun i => rowE (es.getD i dfltE)))
    (e3 : nw = (D2, listOf (List.toArray ((orderE es).map fun i => (kvs.map (·.2)).getD i Value.none)) n2) :: (D, LCg.lst (kvs.map (·.2))) :: (fl, listOf (List.toArray acc) na) :: (s.heap.objs.size + 1, co1) :: (tx, tbObj tdx) :: (tdx, tbDict w.params nm pa en u0 u1 u2 u3 u4) :: (en, oE) :: ex) : TtI w s fl co1 tx tdx en pa nm u0 u1 u2 u3 u4 oE ex kvs es D D2 n2 i m nw
set_option maxHeartbeats 1000000 in
theorem table_spec {w : World} {mean mg mb} {b : Heap} {s : Shared} {dp un : Nat} {fr : Option (List Env)} {gd : Option (List Code)} {R : Result → Shared → Prop} {hd : Option Value} {tx tdx en pa : Addr} {nm : Str} {u0 u1 u2 u3 u4 : Tok} {oE : Obj} {kvs : List (Str × Value)} {ex : List (Addr × Obj)} {es : List Ent}
    (S : Sx w mean mg mb b) (hH : HOk hd b) (hb : b.StaysIn s.heap)
    (ht : s.heap.get? tx = some (tbObj tdx)) (htd : s.heap.get? tdx = some (tbDict w.params nm pa en u0 u1 u2 u3 u4)) (hen : s.heap.get? en = some oE) (hE : oE.IsDictOf (PySem.strKind PySem.Challenge.rw_on0064_01.row.prog w) kvs) (lo : (en == sysModules) = false)
    (o1 : b.get? tx = none) (o2 : b.get? tdx = none) (o3 : b.get? en = none)
    (hab : AbsIn w.params ex (kvs.map (·.2)) es) (hex : ∀ p ∈ ex, s.heap.get? p.1 = some p.2 ∧ b.get? p.1 = none) (hok : ∀ e ∈ es, EntOk e) (h64 : kvs.length < 64) (hroom : dp + 40 < recursionLimit) (hu : un ≤ 8890)
    (ret : NewInts s (textF es) fun v s' => R (.ok (.ret v)) s') :
    codeAny (model PySem.Challenge.rw_on0064_01.row.prog w) ⟨hd, dp, fr, gd, un⟩ (.call (.ref 106) ⟨[.ref tx], []⟩) R s := by
  (have KX9 : Fill Mine.hd.heap_39 PySem.Challenge.rw_on0064_01 := (by k_fill; exact trivial); clear KX9)
  have hl0 : ∀ p ∈ (tx, tbObj tdx) :: (tdx, tbDict w.params nm pa en u0 u1 u2 u3 u4) :: (en, oE) :: ex, s.heap.get? p.1 = some p.2 ∧ b.get? p.1 = none := allP ⟨ht, o1⟩ (allP ⟨htd, o2⟩ (allP ⟨hen, o3⟩ hex))
  have q0 : ∀ q ∈ ex, @LT.lt Nat _ q.1 s.heap.objs.size := fun q hq => Heap.lt_size (hex q hq).1
  have q1 : @LT.lt Nat _ tx s.heap.objs.size := Heap.lt_size ht
  have q2 : @LT.lt Nat _ tdx s.heap.objs.size := Heap.lt_size htd
  have q3 : @LT.lt Nat _ en s.heap.objs.size := Heap.lt_size hen
  refine' enterC (binds := [(Str.ofString "table", .ref tx)]) S hb (((tx, tbObj tdx) :: (tdx, tbDict w.params nm pa en u0 u1 u2 u3 u4) :: (en, oE) :: ex).map (·.1)) ?hW ?ho ?hcd (by show dp < _; omega) ?hbind ?hk ?hnd ?_ ?c2 ?c3 ?c4
  case hW => intro a ha; obtain ⟨p, hp, rfl⟩ := List.mem_map.mp ha; exact (hl0 p hp).2
  (case ho => ((conv => lhs; whnf); (first | (conv in (occs := *) fd9 _ => all_goals whnf) | (conv in (occs := *) md9 _ _ => all_goals whnf)); (try dsimp only); exact rfl)); (case hcd => k_is); (case hbind => exact BindsTo.of_eq rfl); (case hk => exact rfl); (case hnd => decide +kernel); (case c2 => exact rfl); (case c3 => exact rfl); (case c4 => exact rfl)
  have hH' := hok_hide (W := ((tx, tbObj tdx) :: (tdx, tbDict w.params nm pa en u0 u1 u2 u3 u4) :: (en, oE) :: ex).map (·.1)) hH hb (by intro a ha; obtain ⟨p, hp, rfl⟩ := List.mem_map.mp ha; exact (hl0 p hp).2)
  intro g L h₁ tk₁ cells S' hg hL F K1 NC Y
  subst hg hL
  have X := S'.X
  have T := S'.T
  generalize hW9 : List.map (·.1) ((tx, tbObj tdx) :: (tdx, tbDict w.params nm pa en u0 u1 u2 u3 u4) :: (en, oE) :: ex) = W at *
  have N0 : News (hideAll s.heap W) s.heap.objs.size h₁ ((tx, tbObj tdx) :: (tdx, tbDict w.params nm pa en u0 u1 u2 u3 u4) :: (en, oE) :: ex) := news_of K1 fun p hp => ⟨hW9 ▸ List.mem_map_of_mem hp, (hl0 p hp).1⟩
  have N := News.app NC N0
  clear NC N0
  obtain ⟨co1, hE9, cd1⟩ := PyProof.Rows.CellsAre.one Y; subst hE9; clear Y
  (try simp only [List.cons_append, List.nil_append] at N)
  (try dsimp only)
  repeat' (first | (k_unfold; (try dsimp only)) | (k_end; kc_close) | (first | ((with_reducible show wpAny _ _ (eval (Expr.Name _ _) _) _ _ _); with_reducible (k_here; (with_reducible show wpAny _ _ (eval (Expr.Name (Str.ofString "table") _) _) _ _ _); k_dflt (first   | (refine' nameX_C ?k9N ?k9c ?k9m ?k9d ?_ ?k9a ?k9b; (case k9a => rfl); (case k9b => rfl); (case k9N => k_asm); (case k9c => rfl); (case k9m => k_mem); (case k9d => with_reducible assumption); k_whole)   | (refine' lcf_free ?k9N ?k9c ?k9m ?k9d ?_ ?k9a ?k9b; (case k9a => rfl); (case k9b => rfl); (case k9N => k_asm); (case k9c => rfl); (case k9m => k_mem); (case k9d => with_reducible assumption); k_whole)))) | ((with_reducible show wpAny _ _ (call (Value.builtin "sorted") _ _) _ _ _); with_reducible (with_reducible refine Stop.go ?_)) | ((with_reducible show wpAny _ _ (call (Value.builtin _) _ _) _ _ _); with_reducible (with_reducible refine Stop.go ?_)) | ((with_reducible show wpAny _ _ (call (Value.ref _) _ _) _ _ _); (with_unfolding_all show wpAny _ _ (call (Value.ref 94) [Value.ref _]) _ _ _); with_reducible refine Stop.go ?_) | ((with_reducible show wpAny _ _ (eval (Expr.ListComp _ _ _ _) _) _ _ _); with_reducible (with_reducible refine Stop.go ?_)) | ((with_reducible show wpAny _ _ (exec (Stmt.For _ _ _ _ _) _) _ _ _); with_reducible (k_here; (with_unfolding_all (refine' For_mine ?_ ?k9hs; (case k9hs => intro _; rfl))))) | ((with_reducible show wpAny _ _ (exec (Stmt.While _ _ _ _) _) _ _ _); with_reducible (with_reducible refine Stop.go ?_))) | walk1 | (dsimp only; walk1) | (leave1; (try dsimp only)))
  rename Fr _ _ _ _ => F2
  rename News _ _ _ _ => N2
  rename (_ ∧ _ ∧ _ ∧ _ ∧ AllLt _ ex) => hlt
  rename_i fl _ hB2
  have r1 : ∀ q ∈ ex, q.1 ≠ fl := by
    intro q hq
    have h1 := q0 q hq; have h2 := hlt.1; intro e; rw [e] at h1; exact absurd h1 (by omega)
  have hlt' := hlt.1
  clear hlt
  have hc1 : co1.data = .cell (some (.ref tx)) := cd1
  clear cd1
  refine Stop.go (comp_rule (by assumption) rfl (by decide) rfl (by decide) rfl ?_ (fun _ => rfl))
  repeat' (first | (k_unfold; (try dsimp only)) | (k_end; kc_close) | (first | ((with_reducible show wpAny _ _ (eval (Expr.Name _ _) _) _ _ _); with_reducible (k_here; (with_reducible show wpAny _ _ (eval (Expr.Name (Str.ofString "table") _) _) _ _ _); k_dflt (first   | (refine' nameX_C ?k9N ?k9c ?k9m ?k9d ?_ ?k9a ?k9b; (case k9a => rfl); (case k9b => rfl); (case k9N => k_asm); (case k9c => rfl); (case k9m => k_mem); (case k9d => with_reducible assumption); k_whole)   | (refine' lcf_free ?k9N ?k9c ?k9m ?k9d ?_ ?k9a ?k9b; (case k9a => rfl); (case k9b => rfl); (case k9N => k_asm); (case k9c => rfl); (case k9m => k_mem); (case k9d => with_reducible assumption); k_whole)))) | ((with_reducible show wpAny _ _ (call (Value.builtin "sorted") _ _) _ _ _); with_reducible (with_reducible refine Stop.go ?_)) | ((with_reducible show wpAny _ _ (call (Value.builtin _) _ _) _ _ _); with_reducible (with_reducible refine Stop.go ?_)) | ((with_reducible show wpAny _ _ (call (Value.ref _) _ _) _ _ _); (with_unfolding_all show wpAny _ _ (call (Value.ref 94) [Value.ref _]) _ _ _); with_reducible refine Stop.go ?_) | ((with_reducible show wpAny _ _ (eval (Expr.ListComp _ _ _ _) _) _ _ _); with_reducible (with_reducible refine Stop.go ?_)) | ((with_reducible show wpAny _ _ (exec (Stmt.For _ _ _ _ _) _) _ _ _); with_reducible (k_here; (with_unfolding_all (refine' For_mine ?_ ?k9hs; (case k9hs => intro _; rfl))))) | ((with_reducible show wpAny _ _ (exec (Stmt.While _ _ _ _) _) _ _ _); with_reducible (with_reducible refine Stop.go ?_))) | walk1 | (dsimp only; walk1) | (leave1; (try dsimp only)))
  rename Fr _ _ _ _ => F3
  rename News _ _ _ _ => N3
  refine CGo.mk kvs.length (fun i ys nw => nw = (fl, listOf #[] 0) :: (s.heap.objs.size + 1, co1) :: (tx, tbObj tdx) :: (tdx, tbDict w.params nm pa en u0 u1 u2 u3 u4) :: (en, oE) :: ex ∧ ys = (kvs.take i).map (·.2)) F3 N3 (src_dictH hH' F3.keep hE lo (N3.get mm4)) rfl (by omega) (fun i ys nw q => by obtain ⟨rfl, _⟩ := q; exact .inr mm4) ⟨rfl, rfl⟩ ?_ ?_
  · rintro i ys nw hi' ⟨rfl, rfl⟩ v I oI C oC D m₂ h tk E' ⟨k, x, hk, hkv⟩ hC hx F₁ N₁ off ne
    obtain ⟨t, rfl⟩ := Value.isStrOf_shape hkv
    have off0 := off
    simp only [LCg.Off3] at off0
    have cN' : (s.heap.objs.size + 1, co1) ∈ (I, oI) :: (C, oC) :: (D, LCg.lst ((kvs.take i).map (·.2))) :: (fl, listOf #[] 0) :: (s.heap.objs.size + 1, co1) :: (tx, tbObj tdx) :: (tdx, tbDict w.params nm pa en u0 u1 u2 u3 u4) :: (en, oE) :: ex := mm4
    repeat' (first | (k_unfold; (try dsimp only)) | (k_end; kc_close) | (first | ((with_reducible show wpAny _ _ (eval (Expr.Name _ _) _) _ _ _); with_reducible (k_here; (with_reducible show wpAny _ _ (eval (Expr.Name (Str.ofString "table") _) _) _ _ _); k_dflt (first   | (refine' nameX_C ?k9N ?k9c ?k9m ?k9d ?_ ?k9a ?k9b; (case k9a => rfl); (case k9b => rfl); (case k9N => k_asm); (case k9c => rfl); (case k9m => k_mem); (case k9d => with_reducible assumption); k_whole)   | (refine' lcf_free ?k9N ?k9c ?k9m ?k9d ?_ ?k9a ?k9b; (case k9a => rfl); (case k9b => rfl); (case k9N => k_asm); (case k9c => rfl); (case k9m => k_mem); (case k9d => with_reducible assumption); k_whole)))) | ((with_reducible show wpAny _ _ (call (Value.builtin "sorted") _ _) _ _ _); with_reducible (with_reducible refine Stop.go ?_)) | ((with_reducible show wpAny _ _ (call (Value.builtin _) _ _) _ _ _); with_reducible (with_reducible refine Stop.go ?_)) | ((with_reducible show wpAny _ _ (call (Value.ref _) _ _) _ _ _); (with_unfolding_all show wpAny _ _ (call (Value.ref 94) [Value.ref _]) _ _ _); with_reducible refine Stop.go ?_) | ((with_reducible show wpAny _ _ (eval (Expr.ListComp _ _ _ _) _) _ _ _); with_reducible (with_reducible refine Stop.go ?_)) | ((with_reducible show wpAny _ _ (exec (Stmt.For _ _ _ _ _) _) _ _ _); with_reducible (k_here; (with_unfolding_all (refine' For_mine ?_ ?k9hs; (case k9hs => intro _; rfl))))) | ((with_reducible show wpAny _ _ (exec (Stmt.While _ _ _ _) _) _ _ _); with_reducible (with_reducible refine Stop.go ?_))) | walk1 | (dsimp only; walk1) | (leave1; (try dsimp only)))
    refine wpAny_getItem_of hkv (kda_dict N₁ mm7 hE).mapOf (valueAt_of_get (let ⟨_, _, _, _, _, _, hn⟩ := hE; hn) hk) ?_
    refine CEnd.mk _ F₁ N₁ (fun p hp => hp) off ⟨rfl, ?_⟩
    rw [List.take_add_one, hk]
    simp
  · rintro ys nw gg ⟨rfl, rfl⟩ D h tk F₁ N₁ off
    simp only [LCg.Off1] at off
    rw [List.take_length] at N₁
    (try dsimp only)
    repeat' (first | (k_unfold; (try dsimp only)) | (k_end; kc_close) | (first | ((with_reducible show wpAny _ _ (eval (Expr.Name _ _) _) _ _ _); with_reducible (k_here; (with_reducible show wpAny _ _ (eval (Expr.Name (Str.ofString "table") _) _) _ _ _); k_dflt (first   | (refine' nameX_C ?k9N ?k9c ?k9m ?k9d ?_ ?k9a ?k9b; (case k9a => rfl); (case k9b => rfl); (case k9N => k_asm); (case k9c => rfl); (case k9m => k_mem); (case k9d => with_reducible assumption); k_whole)   | (refine' lcf_free ?k9N ?k9c ?k9m ?k9d ?_ ?k9a ?k9b; (case k9a => rfl); (case k9b => rfl); (case k9N => k_asm); (case k9c => rfl); (case k9m => k_mem); (case k9d => with_reducible assumption); k_whole)))) | ((with_reducible show wpAny _ _ (call (Value.builtin "sorted") _ _) _ _ _); with_reducible (with_reducible refine Stop.go ?_)) | ((with_reducible show wpAny _ _ (call (Value.builtin _) _ _) _ _ _); with_reducible (with_reducible refine Stop.go ?_)) | ((with_reducible show wpAny _ _ (call (Value.ref _) _ _) _ _ _); (with_unfolding_all show wpAny _ _ (call (Value.ref 94) [Value.ref _]) _ _ _); with_reducible refine Stop.go ?_) | ((with_reducible show wpAny _ _ (eval (Expr.ListComp _ _ _ _) _) _ _ _); with_reducible (with_reducible refine Stop.go ?_)) | ((with_reducible show wpAny _ _ (exec (Stmt.For _ _ _ _ _) _) _ _ _); with_reducible (k_here; (with_unfolding_all (refine' For_mine ?_ ?k9hs; (case k9hs => intro _; rfl))))) | ((with_reducible show wpAny _ _ (exec (Stmt.While _ _ _ _) _) _ _ _); with_reducible (with_reducible refine Stop.go ?_))) | walk1 | (dsimp only; walk1) | (leave1; (try dsimp only)))
    refine Stop.go (show wpAny _ _ (call (.builtin "sorted") [.ref D] [(Str.ofString "key", .ref 101)]) _ _ _ from ?_)
    have hvl := hab.length
    refine sorted_keyed (words := wordAt es) (vs := kvs.map (·.2)) F₁ N₁ (N₁.isList (.head _)) (by simpa using h64) (by first | units_room | (show _ < _; rw [cLine_is]; dsimp only [Around.deeper, Around.in1]; omega)) (ksk_s1 _ _) (fun _ => ksk_l1 _ _) (ksk_t1 101) ?_ ?_
    · intro i v h' tk news' Q hv hsub F' N' k
      obtain ⟨a, e, rfl, he, hAb⟩ := hab.at hv
      refine eword_call S' hH' F' N' (fun p hp => hsub p hp) (hAb.mono fun p hp => tt6 hp) rfl (by show _ < _; dsimp only [Around.deeper, Around.in1]; omega) fun wa vw nw h'' tk' hm hi F'' N'' => k wa vw nw h'' tk' hm ?_ F'' N''
      unfold wordAt
      rw [List.getD_eq_getElem?_getD, he]
      exact hi
    · intro D2 h' tk' n2 F3 N3 l2
      have hes : es.length < 64 := by rw [← hvl]; simpa using h64
      have hD2 : ∀ q ∈ ex, q.1 ≠ D2 := fun q hq => Nat.ne_of_lt (l2 q (tt6 hq))
      have l2a : @LT.lt Nat _ fl D2 := l2 _ mm1
      rw [hvl] at N3
      have N4 : News (hideAll s.heap W) s.heap.objs.size h' ((D2, listOf (List.toArray ((orderE es).map fun i => (kvs.map (·.2)).getD i Value.none)) n2) :: (D, LCg.lst (kvs.map (·.2))) :: (fl, listOf (List.toArray []) 0) :: (s.heap.objs.size + 1, co1) :: (tx, tbObj tdx) :: (tdx, tbDict w.params nm pa en u0 u1 u2 u3 u4) :: (en, oE) :: ex) := N3
      have hlo : (orderE es).length = es.length := order_len _ _
      have hlt9 : ∀ x ∈ orderE es, x < es.length := order_lt
      clear N3 F₁ N₁ l2
      rename News _ _ hB2 _ => N₅
      clear N₅
      rename Fr _ _ hB2 _ => F₅
      clear F₅
      refine Stop.go (for_listH (n := es.length) (TtI w s fl co1 tx tdx en pa nm u0 u1 u2 u3 u4 oE ex kvs es D D2 n2) hH' F3 N4 (N4.isList (.head _)) (.inr ⟨_, fun i m nw hJ => by obtain ⟨_, _, _, _, _, _, rfl⟩ := hJ; exact .head _⟩) ?_ ?_ ?_ rfl rfl (by passes_own) (by simp [hlo]))
      · exact ⟨rfl, [], 0, [], .nil, rfl, rfl⟩
      · rintro I i v m₁ nw oI h tk hi' ⟨m1, acc, na, fa, ha, hfa, rfl⟩ hne F₁ N₁
        have hi9 : ((orderE es).map fun i => (kvs.map (·.2)).getD i Value.none)[i]? = some v := by simpa using hi'
        rw [List.getElem?_map] at hi9
        obtain ⟨x, hx, hv⟩ := Option.map_eq_some_iff.mp hi9
        have hxe := hlt9 x (List.mem_of_getElem? hx)
        have hxv : (kvs.map (·.2))[x]? = some v := by
          rw [List.getD_eq_getElem?_getD] at hv
          rw [← hv, List.getElem?_eq_getElem (by omega)]; rfl
        obtain ⟨a, e, rfl, he, hAb⟩ := hab.at hxv
        have hrow := rowE_len (hok e (List.mem_of_getElem? he))
        have hal := ha.length
        have hfl : fa.length ≤ 5000 * 64 := stB hok hes hfa
        dsimp only at F₁ N₁ ⊢
        dsimp only [AllNe] at hne
        repeat' (first | (k_unfold; (try dsimp only)) | (k_end; kc_close) | (first | ((with_reducible show wpAny _ _ (eval (Expr.Name _ _) _) _ _ _); with_reducible (k_here; (with_reducible show wpAny _ _ (eval (Expr.Name (Str.ofString "table") _) _) _ _ _); k_dflt (first   | (refine' nameX_C ?k9N ?k9c ?k9m ?k9d ?_ ?k9a ?k9b; (case k9a => rfl); (case k9b => rfl); (case k9N => k_asm); (case k9c => rfl); (case k9m => k_mem); (case k9d => with_reducible assumption); k_whole)   | (refine' lcf_free ?k9N ?k9c ?k9m ?k9d ?_ ?k9a ?k9b; (case k9a => rfl); (case k9b => rfl); (case k9N => k_asm); (case k9c => rfl); (case k9m => k_mem); (case k9d => with_reducible assumption); k_whole)))) | ((with_reducible show wpAny _ _ (call (Value.builtin "sorted") _ _) _ _ _); with_reducible (with_reducible refine Stop.go ?_)) | ((with_reducible show wpAny _ _ (call (Value.builtin _) _ _) _ _ _); with_reducible (with_reducible refine Stop.go ?_)) | ((with_reducible show wpAny _ _ (call (Value.ref _) _ _) _ _ _); (with_unfolding_all show wpAny _ _ (call (Value.ref 94) [Value.ref _]) _ _ _); with_reducible refine Stop.go ?_) | ((with_reducible show wpAny _ _ (eval (Expr.ListComp _ _ _ _) _) _ _ _); with_reducible (with_reducible refine Stop.go ?_)) | ((with_reducible show wpAny _ _ (exec (Stmt.For _ _ _ _ _) _) _ _ _); with_reducible (k_here; (with_unfolding_all (refine' For_mine ?_ ?k9hs; (case k9hs => intro _; rfl))))) | ((with_reducible show wpAny _ _ (exec (Stmt.While _ _ _ _) _) _ _ _); with_reducible (with_reducible refine Stop.go ?_))) | walk1 | (dsimp only; walk1) | (leave1; (try dsimp only)))
        refine Stop.go (etext_call S' hH' F₁ N₁ (hAb.mono fun p hp => tt8 hp) (hok e (List.mem_of_getElem? he)) rfl (by dsimp only [Around.deeper]; omega) ?_)
        intro Dr vr nr h2 tk2 hneD F2 N2 hIr hLr
        dsimp only [AllNe] at hneD
        clear N₁ N4 F3
        (try dsimp only)
        repeat' (first | (k_unfold; (try dsimp only)) | (k_end; kc_close) | (first | ((with_reducible show wpAny _ _ (eval (Expr.Name _ _) _) _ _ _); with_reducible (k_here; (with_reducible show wpAny _ _ (eval (Expr.Name (Str.ofString "table") _) _) _ _ _); k_dflt (first   | (refine' nameX_C ?k9N ?k9c ?k9m ?k9d ?_ ?k9a ?k9b; (case k9a => rfl); (case k9b => rfl); (case k9N => k_asm); (case k9c => rfl); (case k9m => k_mem); (case k9d => with_reducible assumption); k_whole)   | (refine' lcf_free ?k9N ?k9c ?k9m ?k9d ?_ ?k9a ?k9b; (case k9a => rfl); (case k9b => rfl); (case k9N => k_asm); (case k9c => rfl); (case k9m => k_mem); (case k9d => with_reducible assumption); k_whole)))) | ((with_reducible show wpAny _ _ (call (Value.builtin "sorted") _ _) _ _ _); with_reducible (with_reducible refine Stop.go ?_)) | ((with_reducible show wpAny _ _ (call (Value.builtin _) _ _) _ _ _); with_reducible (with_reducible refine Stop.go ?_)) | ((with_reducible show wpAny _ _ (call (Value.ref _) _ _) _ _ _); (with_unfolding_all show wpAny _ _ (call (Value.ref 94) [Value.ref _]) _ _ _); with_reducible refine Stop.go ?_) | ((with_reducible show wpAny _ _ (eval (Expr.ListComp _ _ _ _) _) _ _ _); with_reducible (with_reducible refine Stop.go ?_)) | ((with_reducible show wpAny _ _ (exec (Stmt.For _ _ _ _ _) _) _ _ _); with_reducible (k_here; (with_unfolding_all (refine' For_mine ?_ ?k9hs; (case k9hs => intro _; rfl))))) | ((with_reducible show wpAny _ _ (exec (Stmt.While _ _ _ _) _) _ _ _); with_reducible (with_reducible refine Stop.go ?_))) | walk1 | (dsimp only; walk1) | (leave1; (try dsimp only)))
        refine Stop.go (extend_mine (vs := acc) (its2 := vr.toArray) F2 N2 (.head _) (by k_updF) (by simp only [List.size_toArray]; omega) (by simp only [List.size_toArray]; omega) ?_)
        intro h3 F5 N5
        (try dsimp only)
        repeat' (first | (k_unfold; (try dsimp only)) | (k_end; kc_close) | (first | ((with_reducible show wpAny _ _ (eval (Expr.Name _ _) _) _ _ _); with_reducible (k_here; (with_reducible show wpAny _ _ (eval (Expr.Name (Str.ofString "table") _) _) _ _ _); k_dflt (first   | (refine' nameX_C ?k9N ?k9c ?k9m ?k9d ?_ ?k9a ?k9b; (case k9a => rfl); (case k9b => rfl); (case k9N => k_asm); (case k9c => rfl); (case k9m => k_mem); (case k9d => with_reducible assumption); k_whole)   | (refine' lcf_free ?k9N ?k9c ?k9m ?k9d ?_ ?k9a ?k9b; (case k9a => rfl); (case k9b => rfl); (case k9N => k_asm); (case k9c => rfl); (case k9m => k_mem); (case k9d => with_reducible assumption); k_whole)))) | ((with_reducible show wpAny _ _ (call (Value.builtin "sorted") _ _) _ _ _); with_reducible (with_reducible refine Stop.go ?_)) | ((with_reducible show wpAny _ _ (call (Value.builtin _) _ _) _ _ _); with_reducible (with_reducible refine Stop.go ?_)) | ((with_reducible show wpAny _ _ (call (Value.ref _) _ _) _ _ _); (with_unfolding_all show wpAny _ _ (call (Value.ref 94) [Value.ref _]) _ _ _); with_reducible refine Stop.go ?_) | ((with_reducible show wpAny _ _ (eval (Expr.ListComp _ _ _ _) _) _ _ _); with_reducible (with_reducible refine Stop.go ?_)) | ((with_reducible show wpAny _ _ (exec (Stmt.For _ _ _ _ _) _) _ _ _); with_reducible (k_here; (with_unfolding_all (refine' For_mine ?_ ?k9hs; (case k9hs => intro _; rfl))))) | ((with_reducible show wpAny _ _ (exec (Stmt.While _ _ _ _) _) _ _ _); with_reducible (with_reducible refine Stop.go ?_))) | walk1 | (dsimp only; walk1) | (leave1; (try dsimp only)))
        rename Fr _ _ _ _ => F9
        rename News _ _ _ _ => N9
        refine ForStep.mk F9 (News.sub N9 (fun p hp => .tail _ hp)) ?_ ⟨m1, acc ++ vr, _, fa ++ rowE e, ints_app ha hIr, ?_, rfl⟩
        · exact hne
        · rw [List.take_add_one, hx, hfa]
          have : es.getD x dfltE = e := by rw [List.getD_eq_getElem?_getD, he]; rfl
          simp only [Option.toList_some, List.flatMap_append, List.flatMap_cons, List.flatMap_nil, List.append_nil, this]
      · rintro h tk m₁ nw F₁ N₁ ⟨m1, acc, na, fa, ha, hfa, rfl⟩
        dsimp only at F₁ N₁ ⊢
        rw [List.take_of_length_le (by omega)] at hfa
        repeat' (first | (k_unfold; (try dsimp only)) | (k_end; kc_close) | (first | ((with_reducible show wpAny _ _ (eval (Expr.Name _ _) _) _ _ _); with_reducible (k_here; (with_reducible show wpAny _ _ (eval (Expr.Name (Str.ofString "table") _) _) _ _ _); k_dflt (first   | (refine' nameX_C ?k9N ?k9c ?k9m ?k9d ?_ ?k9a ?k9b; (case k9a => rfl); (case k9b => rfl); (case k9N => k_asm); (case k9c => rfl); (case k9m => k_mem); (case k9d => with_reducible assumption); k_whole)   | (refine' lcf_free ?k9N ?k9c ?k9m ?k9d ?_ ?k9a ?k9b; (case k9a => rfl); (case k9b => rfl); (case k9N => k_asm); (case k9c => rfl); (case k9m => k_mem); (case k9d => with_reducible assumption); k_whole)))) | ((with_reducible show wpAny _ _ (call (Value.builtin "sorted") _ _) _ _ _); with_reducible (with_reducible refine Stop.go ?_)) | ((with_reducible show wpAny _ _ (call (Value.builtin _) _ _) _ _ _); with_reducible (with_reducible refine Stop.go ?_)) | ((with_reducible show wpAny _ _ (call (Value.ref _) _ _) _ _ _); (with_unfolding_all show wpAny _ _ (call (Value.ref 94) [Value.ref _]) _ _ _); with_reducible refine Stop.go ?_) | ((with_reducible show wpAny _ _ (eval (Expr.ListComp _ _ _ _) _) _ _ _); with_reducible (with_reducible refine Stop.go ?_)) | ((with_reducible show wpAny _ _ (exec (Stmt.For _ _ _ _ _) _) _ _ _); with_reducible (k_here; (with_unfolding_all (refine' For_mine ?_ ?k9hs; (case k9hs => intro _; rfl))))) | ((with_reducible show wpAny _ _ (exec (Stmt.While _ _ _ _) _) _ _ _); with_reducible (with_reducible refine Stop.go ?_))) | walk1 | (dsimp only; walk1) | (leave1; (try dsimp only)))
        (try dsimp only)
        have hkl : ∀ p ∈ (tx, tbObj tdx) :: (tdx, tbDict w.params nm pa en u0 u1 u2 u3 u4) :: (en, oE) :: ex, h.get? p.1 = some p.2 := fun p hp => N₁.get (tt4 hp)
        refine ret.of F₁ (hW9 ▸ kept_led (fun p hp => (hl0 p hp).1) hkl) N₁ mm2 (fun hq => ?_) (by unfold textF; rw [← hfa]; exact ha)
        rw [← hW9] at hq
        obtain ⟨p, hp, e⟩ := List.mem_map.mp hq
        have h1 : @LT.lt Nat _ p.1 s.heap.objs.size := Heap.lt_size (hl0 p hp).1
        rw [e] at h1
        exact absurd h1 (by omega)
end

section
open PySem.Calls
noncomputable abbrev flatE (x y : Str) (px py pe : Pos) (iter iter2 : Expr) (scope : Scope) (pos : Pos) : Expr := .ListComp (.Name y pe) [⟨.Name x px, iter, [], 0⟩, ⟨.Name y py, iter2, [], 0⟩] scope pos
section
variable {x y : Str} {px py pe : Pos} {iter iter2 : Expr} {scope : Scope} {pos : Pos}
theorem turn_in (it acc : Value) (env : Env) : compTurn (flatE x y px py pe iter iter2 scope pos) 1 it acc env = (do
      standAt iter2.pos
      match ← pyNext it with
      | none => pure (.done .next)
      | some v =>
        letOwnedTupleGo (.Name y py) it v
        assign (.Name y py) env v
        (do let _ ← call (.builtin "list.append") [acc, ← eval (.Name y pe) env])
        again (.compLoop (flatE x y px py pe iter iter2 scope pos) 1 it acc env)) := by rfl
theorem turn_out (it acc : Value) (env : Env) : compTurn (flatE x y px py pe iter iter2 scope pos) 0 it acc env = (do
      standAt iter.pos
      match ← pyNext it with
      | none => pure (.done .next)
      | some v =>
        letOwnedTupleGo (.Name x px) it v
        assign (.Name x px) env v
        let mut ok := true
        for c in ([] : List Expr) do
          if ok then ok ← isTrue c env (eval c env)
        if ok then
          let z ← eval iter2 env
          standAt iter2.pos
          let z ← foldedSetIterable iter2 env z
          let _ ← runOwn (.compStart (flatE x y px py pe iter iter2 scope pos) 1 (← holding [z] (pyIter z)) acc env) env
        again (.compLoop (flatE x y px py pe iter iter2 scope pos) 0 it acc env)) := by rfl
variable {prog : Program} {w : World} {A : Around} {E : Value → Shared → Prop} {R : Result → Shared → Prop} {s : Shared}
inductive IcI (s : Shared) (I2 l2 C D : Addr) (vs ys : List Value) (k : Nat) (s' : Shared) : Prop
  | mk (h : Heap) (tk i : Nat) (m' : Str → Option Value) (e0 : s' = { s with heap := h, toks := tk }) (e1 : i ≤ vs.length) (e2 : k = vs.length + 1 - i) (e3 : h.IsListIter I2 l2 i ∧ h.IsList l2 vs.toArray) (e4 : h.Ns C m') (e5 : h.get? D = some (LCg.lst (ys ++ vs.take i)))
    (e6 : ∀ b o, b ∉ [I2, C, D] → s.heap.get? b = some o → h.get? b = some o) : IcI s I2 l2 C D vs ys k s'
theorem inner_comp {I2 l2 D C : Addr} {cenv : Env} {m : Str → Option Value} {vs ys : List Value} (hh : A.handled = none)
    (hC : cenv.locals = C) (hk : cenv.scope.kind = .function) (hy : cenv.kindOf y = some .local) (hdb : (y == ("__debug__" : Str)) = false)
    (n1 : l2 ≠ I2) (n2 : I2 ≠ C) (n3 : I2 ≠ D) (n4 : C ≠ D) (n5 : l2 ≠ C) (n6 : l2 ≠ D)
    (st : s.heap.IsListIter I2 l2 0 ∧ s.heap.IsList l2 vs.toArray) (hns : s.heap.Ns C m) (hD : s.heap.get? D = some (LCg.lst ys)) (hsz : ys.length + vs.length ≤ 1000000)
    (done : ∀ h tk m', h.Ns C m' → h.get? D = some (LCg.lst (ys ++ vs)) → (∀ b o, b ∉ [I2, C, D] → s.heap.get? b = some o → h.get? b = some o) → R (.ok .next) { s with heap := h, toks := tk }) :
    codeAny (model prog w) A (.compLoop (flatE x y px py pe iter iter2 scope pos) 1 (.ref I2) (.ref D) cenv) R s := by
  have W := Walks.list (prog := prog) (w := w) (A := A) hh I2 l2 n1 vs.toArray
  refine codeAny_loop rfl (IcI s I2 l2 C D vs ys) (fun k s' hI => ?_) (vs.length + 1) ⟨s.heap, s.toks, 0, m, rfl, Nat.zero_le _, rfl, st, hns, by simpa using hD, fun _ _ _ e => e⟩
  obtain ⟨h, tk, i, m', rfl, hi, rfl, st', hns', hD', hkp⟩ := hI
  show wpAny _ A ((compTurn (flatE x y px py pe iter iter2 scope pos) 1 (.ref I2) (.ref D) cenv).onRaise (fun x => do noteFrame x cenv; theTreesLotGoes x)) _ _ _
  refine wpAny_noted ?_
  rw [turn_in]
  refine wpAny_bind (wpAny_standAt (wpAny_bind ?_))
  by_cases hlt : i < vs.length
  · refine W.item i _ _ _ (by simpa using hlt) st' fun v h₂ tk₂ hv st₂ hk₂ => ?_
    have hv' : vs[i]? = some v := by simpa using hv
    refine wpAny_bind (wpAny_pure ?_)
    refine wpAny_bind (wpAny_assign_Name (wpAny_storeName_local hy (hC ▸ hns'.at' fun o e => hk₂ _ o (by simpa using Ne.symm n2) e) (fun h₃ hn₃ hs₃ => ?_) (by simp [hk])))
    rw [hC] at hn₃ hs₃
    refine wpAny_bind (wpAny_bind ?_)
    have hval : (fun z => if z = y then some v else m' z) y = some v := if_pos rfl
    refine wpAny_Name (wpAny_loadName_local hk hy (hC ▸ hn₃) hval ?_) hdb
    have zD : h₃.get? D = some (LCg.lst (ys ++ vs.take i)) := hs₃.extBut _ _ (Ne.symm n4) (hk₂ _ _ (by simpa using Ne.symm n3) hD')
    refine wpAny_bind (append_at (hsz := by show (ys ++ vs.take i).toArray.size ≤ sizeLine; rw [List.size_toArray, List.length_append, List.length_take, sizeLine_eq]; omega) zD fun h₅ hs₅ hD₅ => ?_)
    refine wpAny_pure (wpAny_pure ⟨rfl, vs.length + 1 - (i + 1), by omega, h₅, _, i + 1, _, rfl, hlt, rfl, ?_, hn₃.sameBut hs₅ n4, ?_, fun b o hb e => ?_⟩)
    · refine W.frame _ _ _ (W.frame _ _ _ st₂ fun b hb o e => hs₃.extBut b o ?_ e) fun b hb o e => hs₅.extBut b o ?_ e
      · simp at hb; rcases hb with rfl | rfl
        · exact n2
        · exact n5
      · simp at hb; rcases hb with rfl | rfl
        · exact n3
        · exact n6
    · rw [hD₅]
      have e : (ys ++ vs.take i) ++ [v] = ys ++ vs.take (i + 1) := by rw [List.take_add_one, hv']; simp
      rw [← e]
      exact congrArg some (LCg.lst_snoc _ _)
    · simp only [List.mem_cons, List.not_mem_nil, or_false, not_or] at hb
      exact hs₅.extBut b o hb.2.2 (hs₃.extBut b o hb.2.1 (hk₂ b o (by simpa using hb.1) (hkp b o (by simp [hb]) e)))
  · obtain rfl : i = vs.length := Nat.le_antisymm hi (Nat.not_lt.mp hlt)
    have e9 : vs.toArray.size = vs.length := by simp
    refine W.done _ _ _ (e9 ▸ st') fun h₂ tk₂ hk₂ => wpAny_pure ?_
    rw [List.take_length] at hD'
    refine done h₂ tk₂ m' (hns'.at' fun o e => hk₂ _ o (by simpa using Ne.symm n2) e) (hk₂ _ _ (by simpa using Ne.symm n3) hD') (fun b o hb e => hk₂ b o (by simp at hb ⊢; exact hb.1) (hkp b o hb e))
theorem start_in {it acc : Value} {cenv : Env} (h0 : codeAny (model prog w) A (.compLoop (flatE x y px py pe iter iter2 scope pos) 1 it acc cenv) R s)
    (h : wpAny (model prog w) A (pyIter it) (fun it' s' => codeAny (model prog w) A (.compLoop (flatE x y px py pe iter iter2 scope pos) 1 it' acc cenv) R s') (notedBy (model prog w) A cenv fun x s' => R (.error x) s') s) :
    codeAny (model prog w) A (.compStart (flatE x y px py pe iter iter2 scope pos) 1 it acc cenv) R s := by
  refine codeAny_of_tree ?_
  show wpAny _ _ ((compStart (flatE x y px py pe iter iter2 scope pos) 1 it acc cenv).onRaise (fun x => do noteFrame x cenv; standAt theWindowsPlace)) _ _ s
  refine wpAny_notedAt ?_
  unfold compStart
  show wpAny _ _ (ask >>= _) _ _ s
  refine wpAny_bind (wpAny_askSetting (wpAny_ite ?_))
  split
  · first
      | exact wpAny_bind (wpAny_pure (wpAny_pure (And.intro rfl h0)))
      | exact wpAny_pure (And.intro rfl h0)
  · refine wpAny_bind (wpAny_rule ?_)
    show wpAny _ _ (standAt iter2.pos >>= _) _ _ s
    exact wpAny_bind (wpAny_standAt (wpAny_bind (wpAny_mono h (fun it' s' h' => wpAny_pure (And.intro rfl h')) fun _ _ x => x)))
theorem inner_start {I2 l2 D C : Addr} {cenv : Env} {m : Str → Option Value} {vs ys : List Value} (hh : A.handled = none)
    (hC : cenv.locals = C) (hk : cenv.scope.kind = .function) (hy : cenv.kindOf y = some .local) (hdb : (y == ("__debug__" : Str)) = false)
    (n1 : l2 ≠ I2) (n2 : I2 ≠ C) (n3 : I2 ≠ D) (n4 : C ≠ D) (n5 : l2 ≠ C) (n6 : l2 ≠ D)
    (st : s.heap.IsListIter I2 l2 0 ∧ s.heap.IsList l2 vs.toArray) (hns : s.heap.Ns C m) (hD : s.heap.get? D = some (LCg.lst ys)) (hsz : ys.length + vs.length ≤ 1000000)
    (done : ∀ h tk m', h.Ns C m' → h.get? D = some (LCg.lst (ys ++ vs)) → (∀ b o, b ∉ [I2, C, D] → s.heap.get? b = some o → h.get? b = some o) → R (.ok .next) { s with heap := h, toks := tk }) :
    codeAny (model prog w) A (.compStart (flatE x y px py pe iter iter2 scope pos) 1 (.ref I2) (.ref D) cenv) R s :=
  start_in (inner_comp hh hC hk hy hdb n1 n2 n3 n4 n5 n6 st hns hD hsz done) (wpAny_pyIter_listiter st.1 (inner_comp hh hC hk hy hdb n1 n2 n3 n4 n5 n6 st hns hD hsz done))
end
open LCg
inductive FEnd (h₀ : Heap) (L : Addr) (m : Str → Option Value) (s₁ : Shared) (I : Addr) (oI : Obj) (C : Addr) (oC : Obj) (D : Addr) (ys : List Value) (S : List (Addr × Obj) → Prop) (rest : List Value → List (Addr × Obj) → Prop) (v : Value) (s₂ : Shared) : Prop
  | intro (l2 : Addr) (vs : List Value) (n : Nat) (h' : Heap) (tk : Nat) (news' : List (Addr × Obj)) (e0 : v = .ref l2) (e1 : s₂ = { s₁ with heap := h', toks := tk }) (e2 : Fr h₀ L h' m) (e3 : News h₀ L h' ((I, oI) :: (C, oC) :: (D, lst ys) :: news')) (e4 : Off3 I C D news') (e5 : S news') (e6 : (l2, listOf (List.toArray vs) n) ∈ news') (e7 : ys.length + vs.length ≤ 1000000) (e8 : rest vs news') : FEnd h₀ L m s₁ I oI C oC D ys S rest v s₂
noncomputable def FlatRest (prog : Program) (w : World) (A : Around) (h₀ : Heap) (L : Addr) (m : Str → Option Value) (env : Env) (iter2 : Expr) (x : Str) (scope : Scope) (cl : List (Str × Addr)) (s : Shared) (S : List (Addr × Obj) → Prop) (P : Nat → Value → Prop)
    (Fin : List Value → List (Addr × Obj) → Prop) : Nat → Nat → List Value → List (Addr × Obj) → Prop
  | 0, _, ys, news => Fin ys news
  | k + 1, i, ys, news => ∀ v I oI C oC D m₂ h tk (E' : Value → Shared → Prop), P i v → NsObj oC m₂ → m₂ x = some v → Fr h₀ L h m → News h₀ L h ((I, oI) :: (C, oC) :: (D, lst ys) :: news) → Off3 I C D news → ((@Ne Nat I C) ∧ (@Ne Nat I D) ∧ (@Ne Nat C D)) →
      wpAny (model prog w) A (eval iter2 (compEnvC scope cl C env)) (FEnd h₀ L m { s with heap := h, toks := tk } I oI C oC D ys S (fun vs news' => FlatRest prog w A h₀ L m env iter2 x scope cl s S P Fin k (i + 1) (ys ++ vs) news')) E' { s with heap := h, toks := tk }
section
variable {prog : Program} {w : World} {A : Around} {E : Value → Shared → Prop} {s s₁ : Shared} {h₀ : Heap} {L : Addr} {m : Str → Option Value} {env : Env} {news : List (Addr × Obj)}
theorem flat_inv {iter2 : Expr} {x : Str} {scope : Scope} {cl : List (Str × Addr)} {S : List (Addr × Obj) → Prop} {P : Nat → Value → Prop} {Fin : List Value → List (Addr × Obj) → Prop} (n : Nat) (J : Nat → List Value → List (Addr × Obj) → Prop)
    (step : ∀ i ys news, i < n → J i ys news → ∀ v I oI C oC D m₂ h tk (E' : Value → Shared → Prop), P i v → NsObj oC m₂ → m₂ x = some v → Fr h₀ L h m → News h₀ L h ((I, oI) :: (C, oC) :: (D, lst ys) :: news) → Off3 I C D news → ((@Ne Nat I C) ∧ (@Ne Nat I D) ∧ (@Ne Nat C D)) →
      wpAny (model prog w) A (eval iter2 (compEnvC scope cl C env)) (FEnd h₀ L m { s with heap := h, toks := tk } I oI C oC D ys S (fun vs news' => J (i + 1) (ys ++ vs) news')) E' { s with heap := h, toks := tk })
    (done : ∀ ys news, J n ys news → Fin ys news) : ∀ k i ys news, i + k = n → J i ys news → FlatRest prog w A h₀ L m env iter2 x scope cl s S P Fin k i ys news
  | 0, i, ys, news, hi, hJ => by
    rw [Nat.add_zero] at hi; subst hi
    exact done _ _ hJ
  | k + 1, i, ys, news, hi, hJ => by
    intro v I oI C oC D m₂ h tk E' hP hC hx F N off ne
    refine wpAny_mono (step i ys news (by omega) hJ v I oI C oC D m₂ h tk E' hP hC hx F N off ne) (fun y s₂ q => ?_) fun _ _ e => e
    obtain ⟨l2, vs, n2, h', tk', news', rfl, rfl, F', N', off', hS, hm, hz, r⟩ := q
    exact ⟨l2, vs, n2, h', tk', news', rfl, rfl, F', N', off', hS, hm, hz, flat_inv n J step done k (i + 1) _ _ (by omega) r⟩

inductive BfI (prog : Program) (w : World) (A : Around) (h₀ : Heap) (L : Addr) (m : Str → Option Value) (env : Env) (iter2 : Expr) (x : Str) (scope : Scope) (cl : List (Str × Addr)) (s₂ : Shared) (S : List (Addr × Obj) → Prop) (P : Nat → Value → Prop) (Fin : List Value → List (Addr × Obj) → Prop) (St : Nat → Heap → Prop) (I C D : Addr) (n k : Nat) (s' : Shared) : Prop
  | mk (h' : Heap) (tk i : Nat) (ys : List Value) (m' : Str → Option Value) (news' : List (Addr × Obj)) (e0 : s' = { s₂ with heap := h', toks := tk }) (e1 : i ≤ n) (e2 : k = n + 1 - i) (e3 : St i h') (e4 : Fr h₀ L h' m) (e5 : h'.Ns C m') (e6 : News h₀ L h' ((D, lst ys) :: news')) (e7 : Off3 I C D news') (e8 : S news')
    (e9 : FlatRest prog w A h₀ L m env iter2 x scope cl s₂ S P Fin (n - i) i ys news') : BfI prog w A h₀ L m env iter2 x scope cl s₂ S P Fin St I C D n k s'
theorem block_flat {iter iter2 : Expr} {x y : Str} {px py pe : Pos} {scope : Scope} {cl : List (Str × Addr)} {pos : Pos} {s₂ : Shared} {I : Addr} {fp : List Addr} {n : Nat} {P : Nat → Value → Prop} {St : Nat → Heap → Prop} {S : List (Addr × Obj) → Prop}
    {Fin : List Value → List (Addr × Obj) → Prop} {RR : Value → Addr → Result → Shared → Prop} (hh : A.handled = none)
    (W : Walks prog w A I fp [I] n P St) (hIo : ∀ i h, St i h → ∃ o, h.get? I = some o)
    (hSt : ∀ i h h' o nw, St i h → h.get? I = some o → h'.get? I = some o → (∀ b o, h₀.get? b = some o → h'.get? b = some o) → News h₀ L h' nw → S nw → St i h')
    (hcell : ∀ y ∈ scope.names, y.2 ≠ .cell) (hkind : scope.kind = .function) (hx : scope.names.lookup x = some .local) (hy : scope.names.lookup y = some .local) (hdb : (y == ("__debug__" : Str)) = false)
    (hs2 : ∀ cenv z, foldedSetIterable iter2 cenv z = pure z) (hst : St 0 s₂.heap) (hfp : ∀ b ∈ fp, b < s₂.heap.objs.size)
    (F : Fr h₀ L s₂.heap m) (N : News h₀ L s₂.heap news) (hIL : L ≠ I) (hI₀ : h₀.get? I = none) (off : ∀ p ∈ news, p.1 ≠ I) (hS : S news)
    (R : FlatRest prog w A h₀ L m env iter2 x scope cl s₂ S P Fin n 0 [] news)
    (hRR : ∀ D C h tk m' ys news', Fr h₀ L h m → News h₀ L h ((D, lst ys) :: news') → Off1 D news' → h.Ns C m' → h₀.get? C = none → h₀.get? D = none → C ≠ L → D ≠ L → C ≠ D → (∀ p ∈ news', p.1 ≠ C) → Fin ys news' → RR (.ref D) C (.ok .next) { s₂ with heap := h, toks := tk }) :
    wpAny (model prog w) A (newList []) (fun acc s₃ => wpAny (model prog w) A (newFunctionEnv scope env.globals cl [] env.qual none .none (some env)) (fun cenv s₄ =>
      codeAny (model prog w) A (.compStart (flatE x y px py pe iter iter2 scope pos) 0 (.ref I) acc { cenv with scope := relabel scope env }) (RR acc cenv.locals) s₄) E s₃) E s₂ := by
  refine wpAny_newObj_type (wpAny_newFunctionEnv hcell (by intro y hy; simp at hy) (fun h₁ hns₁ hsb₁ => ?_) hkind)
  dsimp only at hns₁ hsb₁ ⊢
  generalize hH2 : s₂.heap.push { cls := .type "list", dict := none, data := .seq ([] : List Value).toArray } = H2 at hns₁ hsb₁ ⊢
  obtain ⟨D, hDe⟩ : ∃ D, D = s₂.heap.objs.size := ⟨_, rfl⟩
  obtain ⟨C, hCe⟩ : ∃ C, C = H2.objs.size := ⟨_, rfl⟩
  have hCD : C = D + 1 := by rw [hCe, hDe, ← hH2, Heap.size_push]
  have hIf : I ∈ fp := W.sub I (List.mem_singleton.mpr rfl)
  have below : ∀ b, b < s₂.heap.objs.size → b ≠ C ∧ b ≠ D := fun b hb => by rw [hCD, hDe]; exact ⟨Nat.ne_of_lt (Nat.lt_succ_of_lt hb), Nat.ne_of_lt hb⟩
  have nCD : C ≠ D := by rw [hCD]; exact Nat.succ_ne_self D
  have old : ∀ b o, s₂.heap.get? b = some o → h₁.get? b = some o := fun b o e => hsb₁.extBut b o (hCe ▸ (below b (Heap.lt_size e)).1) (Heap.get?_push_of_some _ (hH2 ▸ Heap.get?_push_of_some _ e))
  have hacc : h₁.get? D = some (lst []) := hsb₁.extBut _ _ (hCe ▸ Ne.symm nCD) (Heap.get?_push_of_some _ (by rw [hDe, ← hH2]; exact Heap.get?_push_size _ rfl))
  have fresh₀ : ∀ a, s₂.heap.objs.size ≤ a → h₀.get? a = none := fun a ha => by
    cases e : h₀.get? a with
    | none => rfl
    | some o' => exact absurd (Heap.lt_size (F.keep a o' e)) (Nat.not_lt.mpr ha)
  have hD₀ : h₀.get? D = none := fresh₀ _ (by rw [hDe]; exact Nat.le_refl _)
  have hC₀ : h₀.get? C = none := fresh₀ _ (by rw [hCD, hDe]; exact Nat.le_succ _)
  have hLlt : L < s₂.heap.objs.size := F.ns.lt
  have nLC := (below L hLlt).1
  have nLD := (below L hLlt).2
  have nIC := (below I (hfp I hIf)).1
  have nID := (below I (hfp I hIf)).2
  have hst₁ : St 0 h₁ := W.frame _ _ _ hst fun b _ o e => old b o e
  have off₀ : Off3 I C D news := Off3.of fun p hp => ⟨off p hp, (below _ (Heap.lt_size (N p hp).1)).1, (below _ (Heap.lt_size (N p hp).1)).2⟩
  rw [← hCe] at hns₁ ⊢
  rw [← hDe]
  have loop : ∀ s₃ : Shared, (∃ tk, s₃ = { s₂ with heap := h₁, toks := tk }) →
      codeAny (model prog w) A (.compLoop (flatE x y px py pe iter iter2 scope pos) 0 (.ref I) (.ref D) (compEnvC scope cl C env)) (RR (.ref D) C) s₃ := by
    rintro s₃ ⟨tk₀, rfl⟩
    refine codeAny_loop rfl (BfI prog w A h₀ L m env iter2 x scope cl s₂ S P Fin St I C D n) (fun k s' hJ => ?_) (n + 1)
      ⟨h₁, tk₀, 0, [], _, news, rfl, Nat.zero_le _, rfl, hst₁, F.keeps old, hns₁, fun p hp => ?_, off₀, hS, R⟩
    · obtain ⟨h', tk, i, ys, m', news', rfl, hi, rfl, hst', F', hn', N', off', hS', R'⟩ := hJ
      show wpAny _ A ((compTurn (flatE x y px py pe iter iter2 scope pos) 0 (.ref I) (.ref D) (compEnvC scope cl C env)).onRaise (fun x => do noteFrame x (compEnvC scope cl C env); theTreesLotGoes x)) _ _ _
      refine wpAny_noted ?_
      rw [turn_out]
      refine wpAny_bind (wpAny_standAt (wpAny_bind ?_))
      have off3 := off'.mem
      by_cases hlt : i < n
      · obtain ⟨j, hj⟩ : ∃ j, n - i = j + 1 := ⟨n - i - 1, by omega⟩
        rw [hj] at R'
        refine W.item i _ _ _ hlt hst' fun v h₂ tk₂ hPv hst₂ hk₂ => ?_
        refine wpAny_bind (wpAny_pure ?_)
        refine wpAny_bind (wpAny_assign_Name (wpAny_storeName_local (lookup_relabel_local hx) (hn'.at' fun o e => hk₂ _ o (by simpa using Ne.symm nIC) e) (fun h₃ hn₃ hs₃ => ?_) (by simp [compEnvC, relabel, hkind])))
        refine wpAny_bind (wpAny_tests_nil ?_)
        simp only [if_true]
        have hst₃ : St (i + 1) h₃ := W.frame _ _ _ hst₂ fun b hb o e => hs₃.extBut b o (fun q => by have q' : b = C := q; have := hfp b hb; rw [q', hCD, hDe] at this; exact absurd this (Nat.not_lt.mpr (Nat.le_succ _))) e
        obtain ⟨oI, heI⟩ := hIo _ _ hst₃
        obtain ⟨oC, heC, hoC⟩ := ns_obj hn₃
        have F₃ : Fr h₀ L h₃ m := (fr_but F' hk₂ hIL hI₀).change hs₃ (Ne.symm nLC) hC₀
        have N₂ : News h₀ L h₂ ((D, lst ys) :: news') := news_but N' hk₂ fun p hp => by
          rcases List.mem_cons.mp hp with rfl | hp
          · exact Ne.symm nID
          · exact (off3 p hp).1
        have N₃ : News h₀ L h₃ ((I, oI) :: (C, oC) :: (D, lst ys) :: news') := fun p hp => by
          rcases List.mem_cons.mp hp with rfl | hp
          · exact ⟨heI, Ne.symm hIL, hI₀⟩
          · rcases List.mem_cons.mp hp with rfl | hp
            · exact ⟨heC, Ne.symm nLC, hC₀⟩
            · have z := N₂ p hp
              refine ⟨hs₃.extBut _ _ ?_ z.1, z.2⟩
              rcases List.mem_cons.mp hp with rfl | hp
              · exact Ne.symm nCD
              · exact (off3 p hp).2.1
        refine wpAny_bind (wpAny_mono (R' v I oI C oC D _ h₃ _ _ hPv hoC (by simp) F₃ N₃ off' ⟨nIC, nID, nCD⟩) (fun z s₄ h₄ => ?_) fun _ _ e => e)
        obtain ⟨l2, vs, n2, h₄, tk₄, news₄, rfl, rfl, F₄, N₄, off₄, hS₄, hm₄, hz₄, R₄⟩ := h₄
        have off4 := off₄.mem
        have zI := (N₄ (I, oI) (.head _)).1
        have zC := (N₄ (C, oC) (.tail _ (.head _))).1
        have zD := (N₄ (D, lst ys) (.tail _ (.tail _ (.head _)))).1
        have zl := (N₄ _ (.tail _ (.tail _ (.tail _ hm₄)))).1
        have hl2 : h₄.IsList l2 vs.toArray := ⟨_, zl, rfl, _, rfl⟩
        refine wpAny_bind (wpAny_standAt (wpAny_bind (wpAny_of_eq (hs2 _ _) (wpAny_bind (wpAny_holding (wpAny_pyIter_list hl2 ?_))))))
        have up : ∀ b o', h₄.get? b = some o' → (h₄.push { cls := .type "list_iterator", data := .fields #[.ref l2, .int 0 0] }).get? b = some o' := fun b o' e => Heap.get?_push_of_some _ e
        have new : ∀ b o', h₄.get? b = some o' → b ≠ h₄.objs.size := fun b o' e => Nat.ne_of_lt (Heap.lt_size e)
        refine wpAny_bind (wpAny_runOwn (show codeAny (model prog w) (A.mark none) _ _ _ from ?_))
        refine inner_start (s := { s₂ with heap := h₄.push { cls := .type "list_iterator", data := .fields #[.ref l2, .int 0 0] }, toks := tk₄ }) (ys := ys) (vs := vs) (by first | exact hh | (unfold Around.mark; simp [hh])) rfl hkind (lookup_relabel_local hy) hdb (new _ _ zl) (Ne.symm (new _ _ zC)) (Ne.symm (new _ _ zD)) nCD (off4 _ hm₄).2.1 (off4 _ hm₄).2.2
            ⟨⟨_, Heap.get?_push_size _ rfl, rfl, rfl⟩, hl2.push _⟩ (hoC.ns (up _ _ zC)) (up _ _ zD) hz₄ fun h₆ tk₆ m₆ ns₆ hD₆ hk₆ => ?_
        have kp : ∀ b o, b ≠ C → b ≠ D → h₄.get? b = some o → h₆.get? b = some o := fun b o q1 q2 e => hk₆ b o (by simp only [List.mem_cons, List.not_mem_nil, or_false, not_or]; exact ⟨new _ _ e, q1, q2⟩) (up b o e)
        have F₆ : Fr h₀ L h₆ m := ⟨F₄.ns.at' fun o e => kp L o nLC nLD e, fun b o e => kp b o (fun q => by rw [q, hC₀] at e; cases e) (fun q => by rw [q, hD₀] at e; cases e) (F₄.keep b o e), F₄.above⟩
        have N₆ : News h₀ L h₆ news₄ := fun p hp => ⟨kp _ _ (off4 p hp).2.1 (off4 p hp).2.2 (N₄ p (.tail _ (.tail _ (.tail _ hp)))).1, (N₄ p (.tail _ (.tail _ (.tail _ hp)))).2⟩
        refine wpAny_pure ⟨rfl, n + 1 - (i + 1), by omega, h₆, tk₆, i + 1, ys ++ vs, m₆, news₄, rfl, hlt, rfl, hSt _ _ _ _ _ hst₃ heI (kp _ _ nIC nID zI) F₆.keep N₆ hS₄, F₆, ns₆, fun p hp => ?_, off₄, hS₄, ?_⟩
        · rcases List.mem_cons.mp hp with rfl | hp
          · exact ⟨hD₆, Ne.symm nLD, hD₀⟩
          · exact N₆ p hp
        · rw [show n - (i + 1) = j by omega]
          exact R₄
      · obtain rfl : i = n := Nat.le_antisymm hi (Nat.not_lt.mp hlt)
        rw [Nat.sub_self] at R'
        refine W.done _ _ _ hst' fun h₂ tk₂ hk₂ => wpAny_pure ?_
        exact hRR _ _ h₂ tk₂ _ ys news' (fr_but F' hk₂ hIL hI₀) (news_but N' hk₂ fun p hp => by
          rcases List.mem_cons.mp hp with rfl | hp
          · exact Ne.symm nID
          · exact (off3 p hp).1) off'.one (hn'.at' fun o e => hk₂ _ o (by simpa using Ne.symm nIC) e) hC₀ hD₀ (Ne.symm nLC) (Ne.symm nLD) nCD (fun p hp => (off3 p hp).2.1) R'
    · rcases List.mem_cons.mp hp with rfl | hp
      · exact ⟨hacc, Ne.symm nLD, hD₀⟩
      · exact ⟨old _ _ (N p hp).1, (N p hp).2⟩
  exact codeAny_compStart_list (loop _ ⟨_, rfl⟩) (W.self 0 _ _ _ hst₁ (loop _ ⟨_, rfl⟩))
inductive FGo (prog : Program) (w : World) (A : Around) (h₀ : Heap) (L : Addr) (m : Str → Option Value) (env : Env) (iter2 : Expr) (x : Str) (scope : Scope) (cl : List (Str × Addr)) (Fin : Shared → List Value → List (Addr × Obj) → Prop) (xv : Value) (s₁ : Shared) : Prop
  | intro (n : Nat) (P : Nat → Value → Prop) (S : List (Addr × Obj) → Prop) (news : List (Addr × Obj)) (e0 : Src prog w A h₀ L xv s₁ n P S) (e1 : Fr h₀ L s₁.heap m) (e2 : News h₀ L s₁.heap news) (e3 : S news) (e4 : ∀ g, FlatRest prog w A h₀ L m env iter2 x scope cl { s₁ with heap := g } S P (Fin { s₁ with heap := g }) n 0 [] news) : FGo prog w A h₀ L m env iter2 x scope cl Fin xv s₁
theorem FGo.mk {iter2 : Expr} {x : Str} {scope : Scope} {cl : List (Str × Addr)} {Fin : Shared → List Value → List (Addr × Obj) → Prop} {xv : Value} {n : Nat} {P : Nat → Value → Prop} {S : List (Addr × Obj) → Prop} (n' : Nat)
    (J : Nat → List Value → List (Addr × Obj) → Prop) (F : Fr h₀ L s₁.heap m) (N : News h₀ L s₁.heap news) (src : Src prog w A h₀ L xv s₁ n P S) (hn : n = n') (hS : S news) (h0 : J 0 [] news)
    (step : ∀ i ys news, i < n' → J i ys news → ∀ v I oI C oC D m₂ h tk (E' : Value → Shared → Prop), P i v → NsObj oC m₂ → m₂ x = some v → Fr h₀ L h m → News h₀ L h ((I, oI) :: (C, oC) :: (D, lst ys) :: news) → Off3 I C D news → ((@Ne Nat I C) ∧ (@Ne Nat I D) ∧ (@Ne Nat C D)) →
      wpAny (model prog w) A (eval iter2 (compEnvC scope cl C env)) (FEnd h₀ L m { s₁ with heap := h, toks := tk } I oI C oC D ys S (fun vs news' => J (i + 1) (ys ++ vs) news')) E' { s₁ with heap := h, toks := tk })
    (done : ∀ ys news g, J n' ys news → Fin { s₁ with heap := g } ys news) : FGo prog w A h₀ L m env iter2 x scope cl Fin xv s₁ := by
  subst hn
  refine ⟨n, P, S, news, src, F, N, hS, fun g => ?_⟩
  exact flat_inv (s := { s₁ with heap := g }) n J step (fun ys news q => done ys news g q) n 0 [] news (Nat.zero_add _) h0
theorem FEnd.mk {I C D l2 : Addr} {oI oC : Obj} {ys vs : List Value} {n : Nat} {S : List (Addr × Obj) → Prop} {rest : List Value → List (Addr × Obj) → Prop} {h' : Heap} {tk : Nat} {all : List (Addr × Obj)} (news' : List (Addr × Obj))
    (F : Fr h₀ L h' m) (N : News h₀ L h' all) (sub : ∀ p ∈ (I, oI) :: (C, oC) :: (D, lst ys) :: news', p ∈ all) (off : Off3 I C D news') (hS : S news') (hm : (l2, listOf (List.toArray vs) n) ∈ news') (hz : ys.length + vs.length ≤ 1000000) (r : rest vs news') :
    FEnd h₀ L m s₁ I oI C oC D ys S rest (.ref l2) { s₁ with heap := h', toks := tk } := ⟨l2, vs, n, h', tk, news', rfl, rfl, F, fun p hp => N p (sub p hp), off, hS, hm, hz, r⟩

theorem flat_rule {iter iter2 : Expr} {x y : Str} {px py pe : Pos} {scope : Scope} {cl : List (Str × Addr)} {pos : Pos} {Q : Value → Shared → Prop} (_F₀ : Fr h₀ L s.heap m) (hh : A.handled = none)
    (hclos : closureFor scope env = pure cl) (hcell : ∀ y ∈ scope.names, y.2 ≠ .cell) (hkind : scope.kind = .function)
    (hnames : ∀ y ∈ scope.names, y.2 = .local → scope.names.lookup y.1 = some .local) (hx : scope.names.lookup x = some .local) (hy : scope.names.lookup y = some .local) (hdb : (y == ("__debug__" : Str)) = false)
    (h : wpAny (model prog w) A (eval iter env) (FGo prog w A h₀ L m env iter2 x scope cl (fun s₂ => FinE h₀ L m s₂ Q)) E s)
    (hs : ∀ x, foldedSetIterable iter env x = pure x) (hs2 : ∀ cenv z, foldedSetIterable iter2 cenv z = pure z) :
    wpAny (model prog w) A (eval (flatE x y px py pe iter iter2 scope pos) env) Q E s := by
  rw [eval_ListComp]
  refine wpAny_comprehension_free (use := none) rfl hs hclos hkind hnames (wpAny_mono h (fun xv s₁ h₁ => ?_) fun _ _ e => e)
  obtain ⟨n, P, S, news, hsrc, F, N, hS, R⟩ := h₁
  refine hsrc _ _ fun fp St o W hIo hSt hst hfp hI => ?_
  have up : ∀ b o', s₁.heap.get? b = some o' → (s₁.heap.push o).get? b = some o' := fun b o' e => Heap.get?_push_of_some _ e
  refine block_flat hh W hIo hSt hcell hkind hx hy hdb hs2 hst hfp (F.keeps up) (N.grown up) (Nat.ne_of_lt F.ns.lt) (next_is_new F) (fun p hp => Nat.ne_of_lt (Heap.lt_size (N p hp).1)) hS (R _) ?_
  intro D C h' tk m' ys news' F' N' o1 hn hC₀ hD₀ hCL hDL hCD offC fin
  refine ⟨m', hn, fun h'' hs'' => fin D h'' tk (F'.change hs'' hCL hC₀) (fun p hp => ?_) o1⟩
  refine ⟨hs''.extBut _ _ ?_ (N' p hp).1, (N' p hp).2⟩
  rcases List.mem_cons.mp hp with rfl | hp
  · exact Ne.symm hCD
  · exact offC p hp
theorem flat_assign {iter iter2 : Expr} {x y z : Str} {px py pe pz : Pos} {scope : Scope} {cl : List (Str × Addr)} {pos spos : Pos} {Q : Flow → Shared → Prop} (_F₀ : Fr h₀ env.locals s.heap m) (hh : A.handled = none)
    (hsw : swapsWith (flatE x y px py pe iter iter2 scope pos) (some (.Name z pz)) spos.line env = pure true)
    (hclos : closureFor scope env = pure cl) (hcell : ∀ y ∈ scope.names, y.2 ≠ .cell) (hkind : scope.kind = .function)
    (hnames : ∀ y ∈ scope.names, y.2 = .local → scope.names.lookup y.1 = some .local) (hx : scope.names.lookup x = some .local) (hy : scope.names.lookup y = some .local) (hdb : (y == ("__debug__" : Str)) = false)
    (hz : env.kindOf z = some .local) (hp : (env.scope.kind == .class || (env.scope.kind == .module && env.locals != env.globals)) = false)
    (h : wpAny (model prog w) A (eval iter env) (FGo prog w A h₀ env.locals m env iter2 x scope cl (fun s₂ => FinA h₀ env.locals m s₂ z Q)) E s)
    (hs : ∀ x, foldedSetIterable iter env x = pure x) (hs2 : ∀ cenv z, foldedSetIterable iter2 cenv z = pure z) :
    wpAny (model prog w) A (exec (.Assign [.Name z pz] (flatE x y px py pe iter iter2 scope pos) spos) env) Q E s := by
  rw [exec_Assign_Name_used _ _ _ _ hsw]
  refine wpAny_bind (wpAny_standAt (wpAny_bind ?_))
  show wpAny _ A (do let _ ← comprehension (flatE x y px py pe iter iter2 scope pos) scope env _ (newList []) false (eval iter env) (some (assign (.Name z pz) env))) _ _ s
  refine wpAny_bind (wpAny_mono (wpAny_comprehension_free (use := some (assign (.Name z pz) env)) (Q := fun _ s' => Q .next s') rfl hs hclos hkind hnames
    (wpAny_mono h (fun xv s₁ h₁ => ?_) fun _ _ e => e)) (fun _ s' hq => wpAny_pure (wpAny_pure hq)) fun _ _ e => e)
  obtain ⟨n, P, S, news, hsrc, F, N, hS, R⟩ := h₁
  refine hsrc _ _ fun fp St o W hIo hSt hst hfp hI => ?_
  have up : ∀ b o', s₁.heap.get? b = some o' → (s₁.heap.push o).get? b = some o' := fun b o' e => Heap.get?_push_of_some _ e
  refine block_flat hh W hIo hSt hcell hkind hx hy hdb hs2 hst hfp (F.keeps up) (N.grown up) (Nat.ne_of_lt F.ns.lt) (next_is_new F) (fun p hp => Nat.ne_of_lt (Heap.lt_size (N p hp).1)) hS (R _) ?_
  intro D C h' tk m' ys news' F' N' o1 hn hC₀ hD₀ hCL hDL hCD offC fin
  show wpAny _ A (assign (.Name z pz) env (.ref D)) _ _ _
  refine wpAny_assign_Name (wpAny_storeName_local hz F'.ns (fun h₂ hn₂ hs₂ => ?_) hp)
  have hL₀ : h₀.get? env.locals = none := Heap.get?_none_of_le F'.above
  have F₂ : Fr h₀ env.locals h₂ (fun q => if q = z then some (.ref D) else m q) := ⟨hn₂, fun b o e => hs₂.extBut b o (fun q => by rw [q, hL₀] at e; cases e) (F'.keep b o e), F'.above⟩
  refine ⟨m', hn.sameBut hs₂ hCL, fun h'' hs'' => fin D h'' _ (F₂.change hs'' hCL hC₀) (fun p hp => ?_) o1⟩
  have zz : h₂.get? p.1 = some p.2 := hs₂.extBut _ _ (N' p hp).2.1 (N' p hp).1
  refine ⟨hs''.extBut _ _ ?_ zz, (N' p hp).2⟩
  rcases List.mem_cons.mp hp with rfl | hp
  · exact Ne.symm hCD
  · exact offC p hp
end
end

section
local macro_rules | `(tactic| k_mem) => `(tactic| with_reducible assumption)
local macro_rules | `(tactic| k_all) => `(tactic| with_reducible assumption)
theorem off1_mem {D : Addr} : ∀ {l : List (Addr × Obj)}, LCg.Off1 D l → ∀ p ∈ l, p.1 ≠ D
  | [], _, _, h => nomatch h
  | _ :: _, ⟨a, b⟩, p, h => by
    rcases List.mem_cons.mp h with rfl | h
    · exact a
    · exact off1_mem b p h
noncomputable def putE (ls : List Ent) (e : Ent) : List Ent := if (ls.any fun x => decide (x.1 = e.1)) = true then ls.map (fun x => if x.1 = e.1 then e else x) else ls ++ [e]
noncomputable def lastE (es : List Ent) : List Ent := es.foldl putE []
theorem lastE_snoc (es : List Ent) (e : Ent) : lastE (es ++ [e]) = putE (lastE es) e := by simp [lastE, List.foldl_append]
theorem putE_mem {ls : List Ent} {e x : Ent} (h : x ∈ putE ls e) : x ∈ ls ∨ x = e := by
  unfold putE at h
  split at h
  · obtain ⟨y, hy, q⟩ := List.mem_map.mp h
    split at q
    · exact .inr q.symm
    · exact .inl (q ▸ hy)
  · rcases List.mem_append.mp h with h | h
    · exact .inl h
    · exact .inr (List.mem_singleton.mp h)
theorem foldE_mem : ∀ (es ls : List Ent) (e : Ent), e ∈ es.foldl putE ls → e ∈ ls ∨ e ∈ es
  | [], ls, e, h => .inl h
  | x :: es, ls, e, h => by
    rcases foldE_mem es (putE ls x) e h with q | q
    · rcases putE_mem q with q | q
      · exact .inl q
      · exact .inr (q ▸ .head _)
    · exact .inr (.tail _ q)
theorem lastE_mem (es : List Ent) (e : Ent) (h : e ∈ lastE es) : e ∈ es := (foldE_mem es [] e h).elim (fun q => nomatch q) id
noncomputable abbrev tK (w : World) : HeapKind PySem.Challenge.rw_on0064_01.row.prog w (List Int) := tupleKind (intKind PySem.Challenge.rw_on0064_01.row.prog w)
noncomputable def XRel (ex : List (Addr × Obj)) : List (List Int × Addr × Value) → List Ent → Prop
  | [], [] => True
  | x :: xs, e :: ls => (x.1 = e.1 ∧ ∃ a, x.2.2 = .ref a ∧ TupIn ex a e) ∧ XRel ex xs ls
  | _, _ => False
section
variable {ex : List (Addr × Obj)}
theorem XRel.length : ∀ {xs : List (List Int × Addr × Value)} {ls : List Ent}, XRel ex xs ls → xs.length = ls.length
  | [], [], _ => rfl
  | _ :: _, _ :: _, ⟨_, r⟩ => congrArg (· + 1) r.length
  | [], _ :: _, x => x.elim
  | _ :: _, [], x => x.elim
theorem XRel.at : ∀ {xs : List (List Int × Addr × Value)} {ls : List Ent} {i : Nat} {x : List Int × Addr × Value}, XRel ex xs ls → xs[i]? = some x → ∃ e a, ls[i]? = some e ∧ x.1 = e.1 ∧ x.2.2 = .ref a ∧ TupIn ex a e
  | _ :: _, _ :: _, 0, x, ⟨⟨h1, a, h2, h3⟩, _⟩, hv => by simp at hv; subst hv; exact ⟨_, a, by simp, h1, h2, h3⟩
  | _ :: _, _ :: _, i + 1, x, ⟨_, r⟩, hv => by
    obtain ⟨e, a, h1, h2⟩ := r.at (i := i) (by simpa using hv)
    exact ⟨e, a, by simpa using h1, h2⟩
  | [], [], _, _, _, hv => by simp at hv
  | [], _ :: _, _, _, x, _ => x.elim
  | _ :: _, [], _, _, x, _ => x.elim
theorem XRel.snoc {k : List Int} {ka a : Addr} {e : Ent} (hk : k = e.1) (ht : TupIn ex a e) : ∀ {xs : List (List Int × Addr × Value)} {ls : List Ent}, XRel ex xs ls → XRel ex (xs ++ [(k, ka, .ref a)]) (ls ++ [e])
  | [], [], _ => ⟨⟨hk, a, rfl, ht⟩, trivial⟩
  | _ :: _, _ :: _, ⟨x, r⟩ => ⟨x, r.snoc hk ht⟩
  | [], _ :: _, x => x.elim
  | _ :: _, [], x => x.elim
theorem XRel.put {a : Addr} {e : Ent} (ht : TupIn ex a e) : ∀ {xs : List (List Int × Addr × Value)} {ls : List Ent}, XRel ex xs ls → XRel ex (xs.map (putAt e.1 (.ref a))) (ls.map (fun x => if x.1 = e.1 then e else x))
  | [], [], _ => trivial
  | x :: _, l :: _, ⟨⟨h1, b, h2, h3⟩, r⟩ => by
    refine ⟨?_, r.put ht⟩
    show (putAt e.1 (.ref a) x).1 = (if l.1 = e.1 then e else l).1 ∧ ∃ a', (putAt e.1 (.ref a) x).2.2 = .ref a' ∧ TupIn ex a' (if l.1 = e.1 then e else l)
    unfold putAt
    by_cases q : l.1 = e.1
    · rw [if_pos (h1.trans q), if_pos q]; exact ⟨h1.trans q, a, rfl, ht⟩
    · rw [if_neg (fun z => q (h1.symm.trans z)), if_neg q]; exact ⟨h1, b, h2, h3⟩
  | [], _ :: _, x => x.elim
  | _ :: _, [], x => x.elim
theorem XRel.has {k : List Int} : ∀ {xs : List (List Int × Addr × Value)} {ls : List Ent}, XRel ex xs ls → (atKey xs k).isSome = ls.any fun x => decide (x.1 = k)
  | [], [], _ => rfl
  | x :: xs, l :: ls, ⟨⟨h1, _⟩, r⟩ => by
    have := r.has (k := k)
    unfold atKey at this ⊢
    rw [List.find?_cons, List.any_cons]
    by_cases q : x.1 = k
    · simp [q, ← h1]
    · have q' : ¬ l.1 = k := fun z => q (h1.trans z)
      simp only [q, q', decide_false, Bool.false_or]
      exact this
  | [], _ :: _, x => x.elim
  | _ :: _, [], x => x.elim
theorem XRel.store {ka a : Addr} {e : Ent} (ht : TupIn ex a e) {xs : List (List Int × Addr × Value)} {ls : List Ent} (h : XRel ex xs ls) : XRel ex (storedH xs e.1 ka (.ref a)) (putE ls e) := by
  unfold storedH putE
  rw [h.has]
  split
  · exact h.put ht
  · exact h.snoc rfl ht
end
section
variable {w : World} {mean : ExcName → Option Value} {mg mb : Str → Option Value} {g : Heap} {s : Shared} {A : Around} {dp un tk : Nat} {fr : Option (List Env)} {gd : Option (List Code)} {m : Str → Option Value} {L ax : Addr} {en : Ent}
  {news : List (Addr × Obj)} {E : Value → Shared → Prop} {Q : Value → Shared → Prop}
theorem row_call (S : Sx w mean mg mb g) (F : Fr g L s.heap m) (N : News g L s.heap news) (hT : TupIn news ax en) (hok : EntOk en) (hA : A = ⟨none, dp, fr, gd, un⟩) (hroom : dp + 20 < recursionLimit)
    (k : ∀ D vs' n' h' tk, AllNe D news → Fr g L h' m → News g L h' ((D, listOf (List.toArray vs') n') :: news) → IntsAre vs' (rowE en) → vs'.length = (rowE en).length → Q (.ref D) { s with heap := h', toks := tk }) :
    wpAny (model PySem.Challenge.rw_on0064_01.row.prog w) A (call (.ref 219) [.ref ax]) Q E s := by
  subst hA
  obtain ⟨wa, ta, tu, n, vw, nw, vt, nt, h1, h2, h3, h4, h5⟩ := hT
  exact wpAny_call (row_spec S F.keep (N.get h1) (N.fresh h1) (N.isList h2) h3 (by have := hok.1; omega) (N.isList h4) h5 (by have := hok.2.1; omega) hok.2.2.2.2.1 hok.2.2.2.2.2 hroom (newInts_call F N k))
end
inductive StI (w : World) (s : Shared) (d : Addr) (co2 : Obj) (l : Addr) (vs : List Value) (n : Nat) (ex : List (Addr × Obj)) (es : List Ent) (i : Nat) (m : Str → Option Value) (nw : List (Addr × Obj)) : Prop
  | mk (oD : Obj) (xs : List (List Int × Addr × Value)) (rs : List (Addr × Obj)) (ees : Array DictEntry) (ep : Nat) (e0 : nw = (d, oD) :: (s.heap.objs.size + 1, co2) :: (l, listOf (List.toArray vs) n) :: rs) (e1 : ∀ p ∈ ex, p ∈ rs) (e2 : ∀ q ∈ rs, q.1 ≠ d) (e3 : oD.ExactDict) (e4 : oD.data = .dict ees ep) (e5 : ees.toList = xs.map (entryOfKey (tK w)))
    (e6 : (xs.map (·.1)).Nodup) (e7 : ∀ x ∈ xs, ∃ vw nk, (x.2.1, tupOf vw nk) ∈ rs ∧ IntsAre vw x.1) (e8 : xs.length ≤ i) (e9 : XRel ex xs (lastE (es.take i))) : StI w s d co2 l vs n ex es i m nw
inductive StE (xs : List (List Int × Addr × Value)) (vs2 : List Value) (ls : List Ent) (ex : List (Addr × Obj)) (j : Nat) : Prop
  | mk (x : List Int × Addr × Value) (e : Ent) (a : Addr) (e0 : xs[j]? = some x) (e1 : vs2[j]? = some (.ref x.2.1)) (e2 : ls[j]? = some e) (e3 : x.1 = e.1) (e4 : x.2.2 = .ref a) (e5 : TupIn ex a e) (e6 : wordAt ls j = e.1) : StE xs vs2 ls ex j
set_option maxHeartbeats 1000000 in
theorem stext_spec {w : World} {mean mg mb} {b : Heap} {s : Shared} {dp un : Nat} {fr : Option (List Env)} {gd : Option (List Code)} {R : Result → Shared → Prop} {l : Addr} {vs : List Value} {n : Nat} {es : List Ent} {ex : List (Addr × Obj)}
    (S : Sx w mean mg mb b) (hb : b.StaysIn s.heap)
    (hl : s.heap.get? l = some (listOf (List.toArray vs) n)) (hlb : b.get? l = none) (hR : Rels (TupIn ex) vs es) (hex : ∀ p ∈ ex, s.heap.get? p.1 = some p.2 ∧ b.get? p.1 = none) (hok : ∀ e ∈ es, EntOk e) (h64 : es.length < 64) (hroom : dp + 40 < recursionLimit) (hu : un ≤ 8890)
    (ret : NewInts s (textF (lastE es)) fun v s' => R (.ok (.ret v)) s') :
    codeAny (model PySem.Challenge.rw_on0064_01.row.prog w) ⟨none, dp, fr, gd, un⟩ (.call (.ref 243) ⟨[.ref l], []⟩) R s := by
  (have KX9 : Fill Mine.hd.heap_39 PySem.Challenge.rw_on0064_01 := (by k_fill; exact trivial); clear KX9)
  have hl0 : ∀ p ∈ (l, listOf (List.toArray vs) n) :: ex, s.heap.get? p.1 = some p.2 ∧ b.get? p.1 = none := allP ⟨hl, hlb⟩ hex
  have q0 : ∀ q ∈ ex, @LT.lt Nat _ q.1 s.heap.objs.size := fun q hq => Heap.lt_size (hex q hq).1
  have q1 : @LT.lt Nat _ l s.heap.objs.size := Heap.lt_size hl
  refine' enterC (binds := [(Str.ofString "_law_entries", .ref l)]) S hb (((l, listOf (List.toArray vs) n) :: ex).map (·.1)) ?hW ?ho ?hcd (by show dp < _; omega) ?hbind ?hk ?hnd ?_ ?c2 ?c3 ?c4
  case hW => intro a ha; obtain ⟨p, hp, rfl⟩ := List.mem_map.mp ha; exact (hl0 p hp).2
  (case ho => ((conv => lhs; whnf); (first | (conv in (occs := *) fd9 _ => all_goals whnf) | (conv in (occs := *) md9 _ _ => all_goals whnf)); (try dsimp only); exact rfl)); (case hcd => k_is); (case hbind => exact BindsTo.of_eq rfl); (case hk => exact rfl); (case hnd => decide +kernel); (case c2 => exact rfl); (case c3 => exact rfl); (case c4 => exact rfl)
  intro g L h₁ tk₁ cells S' hg hL F K1 NC Y
  subst hg hL
  have X := S'.X
  have T := S'.T
  generalize hW9 : List.map (·.1) ((l, listOf (List.toArray vs) n) :: ex) = W at *
  have N0 : News (hideAll s.heap W) s.heap.objs.size h₁ ((l, listOf (List.toArray vs) n) :: ex) := news_of K1 fun p hp => ⟨hW9 ▸ List.mem_map_of_mem hp, (hl0 p hp).1⟩
  have N := News.app NC N0
  clear NC N0
  obtain ⟨co1, hE9, cd1⟩ := PyProof.Rows.CellsAre.one Y; subst hE9; clear Y
  (try simp only [List.cons_append, List.nil_append] at N)
  (try dsimp only)
  have hvl := hR.length
  repeat' (first | (k_unfold; (try dsimp only)) | (k_end; kc_close) | (first | ((with_reducible show wpAny _ _ (call (Value.ref _) _ _) _ _ _); (with_unfolding_all show wpAny _ _ (call (Value.ref 219) [Value.ref _]) _ _ _); with_reducible refine Stop.go ?_) | ((with_reducible show wpAny _ _ (subscriptTail _ _ (Value.ref _) (Value.ref _)) _ _ _); with_reducible (with_reducible refine Stop.go ?_)) | ((with_reducible show wpAny _ _ (call (Value.builtin "sorted") _ _) _ _ _); with_reducible (with_reducible refine Stop.go ?_)) | ((with_reducible show wpAny _ _ (eval (Expr.Name _ _) _) _ _ _); with_reducible (k_here; (with_reducible show wpAny _ _ (eval (Expr.Name (Str.ofString "_law_last") _) _) _ _ _); k_dflt (first   | (refine' nameX_C ?k9N ?k9c ?k9m ?k9d ?_ ?k9a ?k9b; (case k9a => rfl); (case k9b => rfl); (case k9N => k_asm); (case k9c => rfl); (case k9m => k_mem); (case k9d => with_reducible assumption); k_whole)   | (refine' lcf_free ?k9N ?k9c ?k9m ?k9d ?_ ?k9a ?k9b; (case k9a => rfl); (case k9b => rfl); (case k9N => k_asm); (case k9c => rfl); (case k9m => k_mem); (case k9d => with_reducible assumption); k_whole)))) | ((with_reducible show wpAny _ _ (eval (Expr.ListComp _ _ _ _) _) _ _ _); with_reducible (with_reducible refine Stop.go ?_)) | ((with_reducible show wpAny _ _ (exec (Stmt.For _ _ _ _ _) _) _ _ _); with_reducible (k_here; (with_unfolding_all (refine' For_mine ?_ ?k9hs; (case k9hs => intro _; rfl))))) | ((with_reducible show wpAny _ _ (exec (Stmt.While _ _ _ _) _) _ _ _); with_reducible (with_reducible refine Stop.go ?_))) | walk1 | (dsimp only; walk1) | (leave1; (try dsimp only)))
  rename_i d hB1 oD F1 N1 lo hds fds hdi fdi hlt
  have hcd : @Ne Nat (s.heap.objs.size + 1) d := Nat.ne_of_lt hlt.1
  have r1 : ∀ q ∈ ex, q.1 ≠ d := by
    intro q hq
    have h1 := q0 q hq; have h2 := hlt.1; intro e; rw [e] at h1; exact absurd h1 (by omega)
  have r2 : ∀ q ∈ ex, q.1 ≠ s.heap.objs.size + 1 := by
    intro q hq
    have h1 := q0 q hq; intro e; rw [e] at h1; exact absurd h1 (by omega)
  have r3 : @Ne Nat l d := Nat.ne_of_lt (by have h2 := hlt.1; omega)
  refine storeX_C F1 N1 (c := s.heap.objs.size + 1) rfl (by k_updF) (show co1.data = .cell none from cd1) ?_
  intro h2 co2 F2 N2 hc2
  (try dsimp only at N2)
  clear N1 F1 cd1
  obtain ⟨es0, ep0, hx0, hdat0, _, hp0, _⟩ := hdi
  have he0 : es0.toList = [] := List.length_eq_zero_iff.mp hp0.length
  clear hds fds fdi hp0
  (try dsimp only)
  repeat' (first | (k_unfold; (try dsimp only)) | (k_end; kc_close) | (first | ((with_reducible show wpAny _ _ (call (Value.ref _) _ _) _ _ _); (with_unfolding_all show wpAny _ _ (call (Value.ref 219) [Value.ref _]) _ _ _); with_reducible refine Stop.go ?_) | ((with_reducible show wpAny _ _ (subscriptTail _ _ (Value.ref _) (Value.ref _)) _ _ _); with_reducible (with_reducible refine Stop.go ?_)) | ((with_reducible show wpAny _ _ (call (Value.builtin "sorted") _ _) _ _ _); with_reducible (with_reducible refine Stop.go ?_)) | ((with_reducible show wpAny _ _ (eval (Expr.Name _ _) _) _ _ _); with_reducible (k_here; (with_reducible show wpAny _ _ (eval (Expr.Name (Str.ofString "_law_last") _) _) _ _ _); k_dflt (first   | (refine' nameX_C ?k9N ?k9c ?k9m ?k9d ?_ ?k9a ?k9b; (case k9a => rfl); (case k9b => rfl); (case k9N => k_asm); (case k9c => rfl); (case k9m => k_mem); (case k9d => with_reducible assumption); k_whole)   | (refine' lcf_free ?k9N ?k9c ?k9m ?k9d ?_ ?k9a ?k9b; (case k9a => rfl); (case k9b => rfl); (case k9N => k_asm); (case k9c => rfl); (case k9m => k_mem); (case k9d => with_reducible assumption); k_whole)))) | ((with_reducible show wpAny _ _ (eval (Expr.ListComp _ _ _ _) _) _ _ _); with_reducible (with_reducible refine Stop.go ?_)) | ((with_reducible show wpAny _ _ (exec (Stmt.For _ _ _ _ _) _) _ _ _); with_reducible (k_here; (with_unfolding_all (refine' For_mine ?_ ?k9hs; (case k9hs => intro _; rfl))))) | ((with_reducible show wpAny _ _ (exec (Stmt.While _ _ _ _) _) _ _ _); with_reducible (with_reducible refine Stop.go ?_))) | walk1 | (dsimp only; walk1) | (leave1; (try dsimp only)))
  rename Fr _ _ _ _ => F3
  rename News _ _ _ _ => N3

  refine Stop.go (for_list (n := es.length) (StI w s d co2 l vs n ex es) rfl F3 N3 (N3.isList mm2) (.inr ⟨_, fun i m nw hJ => by obtain ⟨_, _, _, _, _, rfl, _⟩ := hJ; exact mm2⟩) ?_ ?_ ?_ rfl rfl (by passes_own) (by simpa using hvl))
  · exact ⟨oD, [], ex, es0, ep0, rfl, fun p hp => hp, r1, hx0, hdat0, by simpa using he0, .nil, by simp, by simp, trivial⟩
  · rintro I i v m₁ nw oI h tk hi' ⟨oD, xs, rs, ees, ep, rfl, hxr, hrd, hx, hdat, hes, hnd, hkeys, hxl, hXR⟩ hne F₁ N₁
    have hiv : vs[i]? = some v := by simpa using hi'
    obtain ⟨a, e, rfl, he, hT⟩ := hR.at hiv
    have hil : i < es.length := (List.getElem?_eq_some_iff.mp he).1
    obtain ⟨wa, ta, tu, nt, vw, nw, vt, nt2, z1, z2, z3, z4, z5⟩ := id hT
    dsimp only at F₁ N₁ ⊢
    simp only [AllNe] at hne
    have N₂ := News.dup (News.dup N₁ (tt4 (hxr _ z2))) (tt5 (hxr _ z1))
    clear N₁ F3 N3
    repeat' (first | (k_unfold; (try dsimp only)) | (k_end; kc_close) | (first | ((with_reducible show wpAny _ _ (call (Value.ref _) _ _) _ _ _); (with_unfolding_all show wpAny _ _ (call (Value.ref 219) [Value.ref _]) _ _ _); with_reducible refine Stop.go ?_) | ((with_reducible show wpAny _ _ (subscriptTail _ _ (Value.ref _) (Value.ref _)) _ _ _); with_reducible (with_reducible refine Stop.go ?_)) | ((with_reducible show wpAny _ _ (call (Value.builtin "sorted") _ _) _ _ _); with_reducible (with_reducible refine Stop.go ?_)) | ((with_reducible show wpAny _ _ (eval (Expr.Name _ _) _) _ _ _); with_reducible (k_here; (with_reducible show wpAny _ _ (eval (Expr.Name (Str.ofString "_law_last") _) _) _ _ _); k_dflt (first   | (refine' nameX_C ?k9N ?k9c ?k9m ?k9d ?_ ?k9a ?k9b; (case k9a => rfl); (case k9b => rfl); (case k9N => k_asm); (case k9c => rfl); (case k9m => k_mem); (case k9d => with_reducible assumption); k_whole)   | (refine' lcf_free ?k9N ?k9c ?k9m ?k9d ?_ ?k9a ?k9b; (case k9a => rfl); (case k9b => rfl); (case k9N => k_asm); (case k9c => rfl); (case k9m => k_mem); (case k9d => with_reducible assumption); k_whole)))) | ((with_reducible show wpAny _ _ (eval (Expr.ListComp _ _ _ _) _) _ _ _); with_reducible (with_reducible refine Stop.go ?_)) | ((with_reducible show wpAny _ _ (exec (Stmt.For _ _ _ _ _) _) _ _ _); with_reducible (k_here; (with_unfolding_all (refine' For_mine ?_ ?k9hs; (case k9hs => intro _; rfl))))) | ((with_reducible show wpAny _ _ (exec (Stmt.While _ _ _ _) _) _ _ _); with_reducible (with_reducible refine Stop.go ?_))) | walk1 | (dsimp only; walk1) | (leave1; (try dsimp only)))
    have hvw := z3.length
    have hoke := hok e (List.mem_of_getElem? he)
    refine kde_tupleOf (items := vw.toArray) (zs := vw) F₁ N₂ (N₂.isList mm1) (by have := hoke.1; simp only [List.size_toArray]; omega) (by simp) ?_
    intro tp h3 F3 N3 ltp
    clear N₂ F₁
    have lI : @LT.lt Nat _ I tp := ltp _ mm2
    have ld : @LT.lt Nat _ d tp := ltp _ mm3
    clear ltp
    have md := N3 (d, oD) mm4
    (try dsimp only)
    repeat' (first | (k_unfold; (try dsimp only)) | (k_end; kc_close) | (first | ((with_reducible show wpAny _ _ (call (Value.ref _) _ _) _ _ _); (with_unfolding_all show wpAny _ _ (call (Value.ref 219) [Value.ref _]) _ _ _); with_reducible refine Stop.go ?_) | ((with_reducible show wpAny _ _ (subscriptTail _ _ (Value.ref _) (Value.ref _)) _ _ _); with_reducible (with_reducible refine Stop.go ?_)) | ((with_reducible show wpAny _ _ (call (Value.builtin "sorted") _ _) _ _ _); with_reducible (with_reducible refine Stop.go ?_)) | ((with_reducible show wpAny _ _ (eval (Expr.Name _ _) _) _ _ _); with_reducible (k_here; (with_reducible show wpAny _ _ (eval (Expr.Name (Str.ofString "_law_last") _) _) _ _ _); k_dflt (first   | (refine' nameX_C ?k9N ?k9c ?k9m ?k9d ?_ ?k9a ?k9b; (case k9a => rfl); (case k9b => rfl); (case k9N => k_asm); (case k9c => rfl); (case k9m => k_mem); (case k9d => with_reducible assumption); k_whole)   | (refine' lcf_free ?k9N ?k9c ?k9m ?k9d ?_ ?k9a ?k9b; (case k9a => rfl); (case k9b => rfl); (case k9N => k_asm); (case k9c => rfl); (case k9m => k_mem); (case k9d => with_reducible assumption); k_whole)))) | ((with_reducible show wpAny _ _ (eval (Expr.ListComp _ _ _ _) _) _ _ _); with_reducible (with_reducible refine Stop.go ?_)) | ((with_reducible show wpAny _ _ (exec (Stmt.For _ _ _ _ _) _) _ _ _); with_reducible (k_here; (with_unfolding_all (refine' For_mine ?_ ?k9hs; (case k9hs => intro _; rfl))))) | ((with_reducible show wpAny _ _ (exec (Stmt.While _ _ _ _) _) _ _ _); with_reducible (with_reducible refine Stop.go ?_))) | walk1 | (dsimp only; walk1) | (leave1; (try dsimp only)))
    refine wpAny_setItem_heap (knd := tK w) (xs := xs) (k := e.1) (a := tp) (show _ < _ from by first | units_room | (rw [cLine_is]; dsimp only [Around.deeper, Around.in1]; omega))
      (show IsTupleKey _ _ _ _ from ⟨_, vw.toArray, _, N3.get (.head _), rfl, rfl, by simpa using itemsAre_of z3⟩)
      ⟨oD, ees, ep, md.1, hx, hdat, hes, fun x hx => (by obtain ⟨vw', nk, hm', hi'⟩ := hkeys x hx; exact ⟨_, vw'.toArray, nk, N3.get (tt7 hm'), rfl, rfl, by simpa using itemsAre_of hi'⟩), hnd⟩ (fun h4 hm4 hs4 => ?_) (by rw [sizeLine_eq]; omega)
    obtain ⟨oD', ees', ep', ho', hx', hdat', hes', -, hnd'⟩ := hm4
    have F4 := F3.change hs4 md.2.1 md.2.2
    have old : ∀ p, p.1 ≠ d → (p ∈ (tp, tupOf vw 0) :: (I, oI) :: (s.heap.objs.size + 1, co2) :: (l, listOf (List.toArray vs) n) :: rs) → h4.get? p.1 = some p.2 ∧ p.1 ≠ _ ∧ (hideAll s.heap W).get? p.1 = none := fun p hn hp => by
      have z := N3 p (allMem mm0 (allMem mm3 (allMem mm5 (allMem mm6 (fun _ h => tt7 h)))) p hp)
      exact ⟨(hs4.2 _ hn).trans z.1, z.2⟩
    have N4 : News (hideAll s.heap W) _ h4 ((I, oI) :: (d, oD') :: (s.heap.objs.size + 1, co2) :: (l, listOf (List.toArray vs) n) :: (tp, tupOf vw 0) :: rs) :=
      allP (old _ (Ne.symm hne.1) mm1) (allP ⟨ho', md.2⟩ (allP (old _ hcd mm2) (allP (old _ r3 mm3) (allP (old _ (Nat.ne_of_gt ld) mm0) fun q hq => old q (hrd q hq) (tt4 hq)))))
    clear N3 F3 old
    (try dsimp only)
    repeat' (first | (k_unfold; (try dsimp only)) | (k_end; kc_close) | (first | ((with_reducible show wpAny _ _ (call (Value.ref _) _ _) _ _ _); (with_unfolding_all show wpAny _ _ (call (Value.ref 219) [Value.ref _]) _ _ _); with_reducible refine Stop.go ?_) | ((with_reducible show wpAny _ _ (subscriptTail _ _ (Value.ref _) (Value.ref _)) _ _ _); with_reducible (with_reducible refine Stop.go ?_)) | ((with_reducible show wpAny _ _ (call (Value.builtin "sorted") _ _) _ _ _); with_reducible (with_reducible refine Stop.go ?_)) | ((with_reducible show wpAny _ _ (eval (Expr.Name _ _) _) _ _ _); with_reducible (k_here; (with_reducible show wpAny _ _ (eval (Expr.Name (Str.ofString "_law_last") _) _) _ _ _); k_dflt (first   | (refine' nameX_C ?k9N ?k9c ?k9m ?k9d ?_ ?k9a ?k9b; (case k9a => rfl); (case k9b => rfl); (case k9N => k_asm); (case k9c => rfl); (case k9m => k_mem); (case k9d => with_reducible assumption); k_whole)   | (refine' lcf_free ?k9N ?k9c ?k9m ?k9d ?_ ?k9a ?k9b; (case k9a => rfl); (case k9b => rfl); (case k9N => k_asm); (case k9c => rfl); (case k9m => k_mem); (case k9d => with_reducible assumption); k_whole)))) | ((with_reducible show wpAny _ _ (eval (Expr.ListComp _ _ _ _) _) _ _ _); with_reducible (with_reducible refine Stop.go ?_)) | ((with_reducible show wpAny _ _ (exec (Stmt.For _ _ _ _ _) _) _ _ _); with_reducible (k_here; (with_unfolding_all (refine' For_mine ?_ ?k9hs; (case k9hs => intro _; rfl))))) | ((with_reducible show wpAny _ _ (exec (Stmt.While _ _ _ _) _) _ _ _); with_reducible (with_reducible refine Stop.go ?_))) | walk1 | (dsimp only; walk1) | (leave1; (try dsimp only)))
    refine ForStep.mk F4 N4 ?_ ⟨oD', storedH xs e.1 tp (.ref a), (tp, tupOf vw 0) :: rs, ees', ep', rfl, fun p hp => .tail _ (hxr p hp), ?_, hx', hdat', hes', hnd', ?_, ?_, ?_⟩
    · exact ⟨hne.1, hne.2.1, hne.2.2.1, Nat.ne_of_gt lI, hne.2.2.2⟩
    · exact allP (Nat.ne_of_gt ld) hrd
    · intro x hx
      rcases mem_storedH hx with ⟨y, hy, e1, e2⟩ | ⟨e1, e2⟩
      · obtain ⟨vw', nk, hm', hi'⟩ := hkeys y hy
        exact ⟨vw', nk, by rw [e2]; exact .tail _ hm', by rw [e1]; exact hi'⟩
      · exact ⟨vw, 0, by rw [e2]; exact .head _, by rw [e1]; exact z3⟩
    · unfold storedH; split <;> simp <;> omega
    · rw [List.take_add_one, he]
      simp only [Option.toList_some]
      rw [lastE_snoc]
      exact hXR.store hT
  · rintro h tk m₁ nw F₁ N₁ ⟨oD, xs, rs, ees, ep, rfl, hxr, hrd, hx, hdat, hes, hnd, hkeys, hxl, hXR⟩
    dsimp only at F₁ N₁ ⊢
    rw [List.take_length] at hXR
    clear F3 N3
    repeat' (first | (k_unfold; (try dsimp only)) | (k_end; kc_close) | (first | ((with_reducible show wpAny _ _ (call (Value.ref _) _ _) _ _ _); (with_unfolding_all show wpAny _ _ (call (Value.ref 219) [Value.ref _]) _ _ _); with_reducible refine Stop.go ?_) | ((with_reducible show wpAny _ _ (subscriptTail _ _ (Value.ref _) (Value.ref _)) _ _ _); with_reducible (with_reducible refine Stop.go ?_)) | ((with_reducible show wpAny _ _ (call (Value.builtin "sorted") _ _) _ _ _); with_reducible (with_reducible refine Stop.go ?_)) | ((with_reducible show wpAny _ _ (eval (Expr.Name _ _) _) _ _ _); with_reducible (k_here; (with_reducible show wpAny _ _ (eval (Expr.Name (Str.ofString "_law_last") _) _) _ _ _); k_dflt (first   | (refine' nameX_C ?k9N ?k9c ?k9m ?k9d ?_ ?k9a ?k9b; (case k9a => rfl); (case k9b => rfl); (case k9N => k_asm); (case k9c => rfl); (case k9m => k_mem); (case k9d => with_reducible assumption); k_whole)   | (refine' lcf_free ?k9N ?k9c ?k9m ?k9d ?_ ?k9a ?k9b; (case k9a => rfl); (case k9b => rfl); (case k9N => k_asm); (case k9c => rfl); (case k9m => k_mem); (case k9d => with_reducible assumption); k_whole)))) | ((with_reducible show wpAny _ _ (eval (Expr.ListComp _ _ _ _) _) _ _ _); with_reducible (with_reducible refine Stop.go ?_)) | ((with_reducible show wpAny _ _ (exec (Stmt.For _ _ _ _ _) _) _ _ _); with_reducible (k_here; (with_unfolding_all (refine' For_mine ?_ ?k9hs; (case k9hs => intro _; rfl))))) | ((with_reducible show wpAny _ _ (exec (Stmt.While _ _ _ _) _) _ _ _); with_reducible (with_reducible refine Stop.go ?_))) | walk1 | (dsimp only; walk1) | (leave1; (try dsimp only)))
    have hln := hXR.length
    have hesz : ees.size = xs.length := by rw [← Array.length_toList, hes, List.length_map]
    generalize hls : lastE es = ls at *
    have hokl : ∀ e ∈ ls, EntOk e := fun e he => hok e (lastE_mem es e (hls ▸ he))
    refine Stop.go (flat_rule F₁ rfl rfl (by decide) rfl (by decide) rfl rfl rfl ?_ (fun _ => rfl) (fun _ _ => rfl))
    repeat' (first | (k_unfold; (try dsimp only)) | (k_end; kc_close) | (first | ((with_reducible show wpAny _ _ (call (Value.ref _) _ _) _ _ _); (with_unfolding_all show wpAny _ _ (call (Value.ref 219) [Value.ref _]) _ _ _); with_reducible refine Stop.go ?_) | ((with_reducible show wpAny _ _ (subscriptTail _ _ (Value.ref _) (Value.ref _)) _ _ _); with_reducible (with_reducible refine Stop.go ?_)) | ((with_reducible show wpAny _ _ (call (Value.builtin "sorted") _ _) _ _ _); with_reducible (with_reducible refine Stop.go ?_)) | ((with_reducible show wpAny _ _ (eval (Expr.Name _ _) _) _ _ _); with_reducible (k_here; (with_reducible show wpAny _ _ (eval (Expr.Name (Str.ofString "_law_last") _) _) _ _ _); k_dflt (first   | (refine' nameX_C ?k9N ?k9c ?k9m ?k9d ?_ ?k9a ?k9b; (case k9a => rfl); (case k9b => rfl); (case k9N => k_asm); (case k9c => rfl); (case k9m => k_mem); (case k9d => with_reducible assumption); k_whole)   | (refine' lcf_free ?k9N ?k9c ?k9m ?k9d ?_ ?k9a ?k9b; (case k9a => rfl); (case k9b => rfl); (case k9N => k_asm); (case k9c => rfl); (case k9m => k_mem); (case k9d => with_reducible assumption); k_whole)))) | ((with_reducible show wpAny _ _ (eval (Expr.ListComp _ _ _ _) _) _ _ _); with_reducible (with_reducible refine Stop.go ?_)) | ((with_reducible show wpAny _ _ (exec (Stmt.For _ _ _ _ _) _) _ _ _); with_reducible (k_here; (with_unfolding_all (refine' For_mine ?_ ?k9hs; (case k9hs => intro _; rfl))))) | ((with_reducible show wpAny _ _ (exec (Stmt.While _ _ _ _) _) _ _ _); with_reducible (with_reducible refine Stop.go ?_))) | walk1 | (dsimp only; walk1) | (leave1; (try dsimp only)))
    refine Stop.go (kdu_sorted (src_dat (es := ees) (ep := ep) lo) rfl F₁ N₁ ⟨oD, N₁.get (.head _), hx, hdat⟩ (by rw [sizeLine_eq, hesz]; omega) ?_)
    intro D2 h2 tk2 vs2 F2 N2 l2 hlen hP
    have hvs2 : vs2.length = ls.length := by omega
    have hat : ∀ j, j < ls.length → StE xs vs2 ls ex j := fun j hj => by
      have hx1 : xs[j]? = some (xs[j]'(by omega)) := List.getElem?_eq_getElem (by omega)
      obtain ⟨e, a, e1, e2, e3, e4⟩ := hXR.at hx1
      have hv1 : vs2[j]? = some (vs2[j]'(by omega)) := List.getElem?_eq_getElem (by omega)
      obtain ⟨en, f1, f2⟩ := hP j _ hv1
      rw [entry_at hes, hx1] at f1
      simp only [Option.map_some, Option.some.injEq] at f1
      refine ⟨_, e, a, hx1, by rw [hv1, f2, ← f1]; rfl, e1, e2, e3, e4, ?_⟩
      unfold wordAt
      rw [List.getD_eq_getElem?_getD, e1]; rfl
    refine lsort_tuples (words := wordAt ls) F2 N2 (fun q hq => Nat.ne_of_lt (l2 q hq)) (by omega) (show _ < _ from by first | units_room | (rw [cLine_is]; dsimp only [Around.deeper, Around.in1]; omega)) ?_ ?_
    · intro j hj
      obtain ⟨x, e, a, c1, c2, c3, c4, c5, c6, c7⟩ := hat j (by omega)
      obtain ⟨vw, nk, k1, k2⟩ := hkeys x (List.mem_of_getElem? c1)
      exact ⟨x.2.1, vw, nk, c2, tt3 k1, by rw [c7, ← c4]; exact k2⟩
    intro h3 tk3 n3 F3 N3
    rw [hvs2] at N3
    have hlo : (orderE ls).length = ls.length := order_len _ _
    have hlt9 : ∀ x ∈ orderE ls, x < ls.length := order_lt
    have N4 : News (hideAll s.heap W) _ h3 ((D2, listOf (List.toArray ((orderE ls).map fun i => vs2.getD i Value.none)) n3) :: (d, oD) :: (s.heap.objs.size + 1, co2) :: (l, listOf (List.toArray vs) n) :: rs) := N3
    clear N3 N2 F2 N₁ F₁ l2
    generalize hB : (D2, listOf (List.toArray ((orderE ls).map fun i => vs2.getD i Value.none)) n3) :: (d, oD) :: (s.heap.objs.size + 1, co2) :: (l, listOf (List.toArray vs) n) :: rs = base at N4
    have b0 : (D2, listOf (List.toArray ((orderE ls).map fun i => vs2.getD i Value.none)) n3) ∈ base := by rw [← hB]; exact .head _
    have b1 : (d, oD) ∈ base := by rw [← hB]; exact mm1
    have b2 : (s.heap.objs.size + 1, co2) ∈ base := by rw [← hB]; exact mm2
    have b3 : (l, listOf (List.toArray vs) n) ∈ base := by rw [← hB]; exact mm3
    have b4 : ∀ p ∈ rs, p ∈ base := by rw [← hB]; exact fun p hp => tt4 hp
    clear hB
    refine FGo.mk ls.length (fun i ys nw => (∀ p ∈ base, p ∈ nw) ∧ ∃ fa, IntsAre ys fa ∧ fa = ((orderE ls).take i).flatMap (fun i => rowE (ls.getD i dfltE))) F3 N4 (src_list rfl (N4.isList b0)) (by simp [hlo]) (.inr ⟨_, b0, rfl, _, rfl⟩) ⟨fun p hp => hp, [], .nil, rfl⟩ ?_ ?_
    · rintro i ys nw hi ⟨hsub, fa, ha, hfa⟩ v I oI C oC D m₂ h tk E' hPv hC hx9 F₁ N₁ off ne
      have hi9 : ((orderE ls).map fun i => vs2.getD i Value.none)[i]? = some v := by simpa using hPv
      rw [List.getElem?_map] at hi9
      obtain ⟨xi, hxi, hv⟩ := Option.map_eq_some_iff.mp hi9
      obtain ⟨x, e, a, c1, c2, c3, c4, c5, c6, c7⟩ := hat xi (hlt9 xi (List.mem_of_getElem? hxi))
      rw [List.getD_eq_getElem?_getD, c2] at hv
      simp only [Option.getD_some] at hv
      subst hv
      have b2' : (s.heap.objs.size + 1, co2) ∈ (I, oI) :: (C, oC) :: (D, LCg.lst ys) :: nw := tt3 (hsub _ b2)
      have hwl := ha.length
      have hoke := hokl e (List.mem_of_getElem? c3)
      have hrow := rowE_len hoke
      have hfl : fa.length ≤ 5000 * 64 := stB hokl (hln ▸ Nat.lt_of_le_of_lt hxl h64) hfa
      obtain ⟨vwk, nkk, k1, k2⟩ := hkeys x (List.mem_of_getElem? c1)
      (try dsimp only)
      repeat' (first | (k_unfold; (try dsimp only)) | (k_end; kc_close) | (first | ((with_reducible show wpAny _ _ (call (Value.ref _) _ _) _ _ _); (with_unfolding_all show wpAny _ _ (call (Value.ref 219) [Value.ref _]) _ _ _); with_reducible refine Stop.go ?_) | ((with_reducible show wpAny _ _ (subscriptTail _ _ (Value.ref _) (Value.ref _)) _ _ _); with_reducible (with_reducible refine Stop.go ?_)) | ((with_reducible show wpAny _ _ (call (Value.builtin "sorted") _ _) _ _ _); with_reducible (with_reducible refine Stop.go ?_)) | ((with_reducible show wpAny _ _ (eval (Expr.Name _ _) _) _ _ _); with_reducible (k_here; (with_reducible show wpAny _ _ (eval (Expr.Name (Str.ofString "_law_last") _) _) _ _ _); k_dflt (first   | (refine' nameX_C ?k9N ?k9c ?k9m ?k9d ?_ ?k9a ?k9b; (case k9a => rfl); (case k9b => rfl); (case k9N => k_asm); (case k9c => rfl); (case k9m => k_mem); (case k9d => with_reducible assumption); k_whole)   | (refine' lcf_free ?k9N ?k9c ?k9m ?k9d ?_ ?k9a ?k9b; (case k9a => rfl); (case k9b => rfl); (case k9N => k_asm); (case k9c => rfl); (case k9m => k_mem); (case k9d => with_reducible assumption); k_whole)))) | ((with_reducible show wpAny _ _ (eval (Expr.ListComp _ _ _ _) _) _ _ _); with_reducible (with_reducible refine Stop.go ?_)) | ((with_reducible show wpAny _ _ (exec (Stmt.For _ _ _ _ _) _) _ _ _); with_reducible (k_here; (with_unfolding_all (refine' For_mine ?_ ?k9hs; (case k9hs => intro _; rfl))))) | ((with_reducible show wpAny _ _ (exec (Stmt.While _ _ _ _) _) _ _ _); with_reducible (with_reducible refine Stop.go ?_))) | walk1 | (dsimp only; walk1) | (leave1; (try dsimp only)))
      have hm9 : h.DictOfH (tK w) d xs := ⟨oD, ees, ep, N₁.get (tt3 (hsub _ b1)), hx, hdat, hes, fun x hx => (by obtain ⟨vw', nk, hm', hi'⟩ := hkeys x hx; exact ⟨_, vw'.toArray, nk, N₁.get (tt3 (hsub _ (b4 _ hm'))), rfl, rfl, by simpa using itemsAre_of hi'⟩), hnd⟩
      refine Stop.go (subscriptTail_builtin (show Shared.TypeIs _ (.ref d) "dict" from hm9.typeIs) slot_dict_getitem.lookup (wpAny_getItem_heap (knd := tK w) (xs := xs) (k := x.1) (p := x.2) (show _ < _ from by first | units_room | (rw [cLine_is]; dsimp only [Around.deeper, Around.in1]; omega))
        (show IsTupleKey _ _ _ _ from ⟨_, vwk.toArray, _, N₁.get (tt3 (hsub _ (b4 _ k1))), rfl, rfl, by simpa using itemsAre_of k2⟩) hm9 (atKey_of_get hnd (i := xi) c1) ?_) (by with_unfolding_all rfl) (by intro _; with_unfolding_all rfl))
      rw [c5]
      (try dsimp only)
      repeat' (first | (k_unfold; (try dsimp only)) | (k_end; kc_close) | (first | ((with_reducible show wpAny _ _ (call (Value.ref _) _ _) _ _ _); (with_unfolding_all show wpAny _ _ (call (Value.ref 219) [Value.ref _]) _ _ _); with_reducible refine Stop.go ?_) | ((with_reducible show wpAny _ _ (subscriptTail _ _ (Value.ref _) (Value.ref _)) _ _ _); with_reducible (with_reducible refine Stop.go ?_)) | ((with_reducible show wpAny _ _ (call (Value.builtin "sorted") _ _) _ _ _); with_reducible (with_reducible refine Stop.go ?_)) | ((with_reducible show wpAny _ _ (eval (Expr.Name _ _) _) _ _ _); with_reducible (k_here; (with_reducible show wpAny _ _ (eval (Expr.Name (Str.ofString "_law_last") _) _) _ _ _); k_dflt (first   | (refine' nameX_C ?k9N ?k9c ?k9m ?k9d ?_ ?k9a ?k9b; (case k9a => rfl); (case k9b => rfl); (case k9N => k_asm); (case k9c => rfl); (case k9m => k_mem); (case k9d => with_reducible assumption); k_whole)   | (refine' lcf_free ?k9N ?k9c ?k9m ?k9d ?_ ?k9a ?k9b; (case k9a => rfl); (case k9b => rfl); (case k9N => k_asm); (case k9c => rfl); (case k9m => k_mem); (case k9d => with_reducible assumption); k_whole)))) | ((with_reducible show wpAny _ _ (eval (Expr.ListComp _ _ _ _) _) _ _ _); with_reducible (with_reducible refine Stop.go ?_)) | ((with_reducible show wpAny _ _ (exec (Stmt.For _ _ _ _ _) _) _ _ _); with_reducible (k_here; (with_unfolding_all (refine' For_mine ?_ ?k9hs; (case k9hs => intro _; rfl))))) | ((with_reducible show wpAny _ _ (exec (Stmt.While _ _ _ _) _) _ _ _); with_reducible (with_reducible refine Stop.go ?_))) | walk1 | (dsimp only; walk1) | (leave1; (try dsimp only)))
      refine Stop.go (row_call S' F₁ N₁ (c6.mono fun p hp => .tail _ (.tail _ (.tail _ (hsub _ (b4 _ (hxr _ hp)))))) hoke rfl (by dsimp only [Around.deeper]; omega) ?_)
      intro Dr vr nr h5 tk5 hneD F5 N5 hIr hLr
      refine FEnd.mk ((Dr, listOf (List.toArray vr) nr) :: nw) F5 N5 (allMem mm1 (allMem mm2 (allMem mm3 (allMem mm0 fun _ h => tt4 h)))) ⟨⟨Ne.symm hneD.1, Ne.symm hneD.2.1, Ne.symm hneD.2.2.1⟩, off⟩ (.inr ⟨_, .tail _ (hsub _ b0), rfl, _, rfl⟩) (.head _) (stS hwl hfl hLr hrow.2) ⟨fun p hp => .tail _ (hsub p hp), fa ++ rowE e, ints_app ha hIr, ?_⟩
      · rw [List.take_add_one, hxi, hfa]
        have : ls.getD xi dfltE = e := by rw [List.getD_eq_getElem?_getD, c3]; rfl
        simp only [Option.toList_some, List.flatMap_append, List.flatMap_cons, List.flatMap_nil, List.append_nil, this]
    · rintro ys nw gg ⟨hsub, fa, ha, hfa⟩ D h tk F9 N9 off
      (try dsimp only)
      repeat' (first | (k_unfold; (try dsimp only)) | (k_end; kc_close) | (first | ((with_reducible show wpAny _ _ (call (Value.ref _) _ _) _ _ _); (with_unfolding_all show wpAny _ _ (call (Value.ref 219) [Value.ref _]) _ _ _); with_reducible refine Stop.go ?_) | ((with_reducible show wpAny _ _ (subscriptTail _ _ (Value.ref _) (Value.ref _)) _ _ _); with_reducible (with_reducible refine Stop.go ?_)) | ((with_reducible show wpAny _ _ (call (Value.builtin "sorted") _ _) _ _ _); with_reducible (with_reducible refine Stop.go ?_)) | ((with_reducible show wpAny _ _ (eval (Expr.Name _ _) _) _ _ _); with_reducible (k_here; (with_reducible show wpAny _ _ (eval (Expr.Name (Str.ofString "_law_last") _) _) _ _ _); k_dflt (first   | (refine' nameX_C ?k9N ?k9c ?k9m ?k9d ?_ ?k9a ?k9b; (case k9a => rfl); (case k9b => rfl); (case k9N => k_asm); (case k9c => rfl); (case k9m => k_mem); (case k9d => with_reducible assumption); k_whole)   | (refine' lcf_free ?k9N ?k9c ?k9m ?k9d ?_ ?k9a ?k9b; (case k9a => rfl); (case k9b => rfl); (case k9N => k_asm); (case k9c => rfl); (case k9m => k_mem); (case k9d => with_reducible assumption); k_whole)))) | ((with_reducible show wpAny _ _ (eval (Expr.ListComp _ _ _ _) _) _ _ _); with_reducible (with_reducible refine Stop.go ?_)) | ((with_reducible show wpAny _ _ (exec (Stmt.For _ _ _ _ _) _) _ _ _); with_reducible (k_here; (with_unfolding_all (refine' For_mine ?_ ?k9hs; (case k9hs => intro _; rfl))))) | ((with_reducible show wpAny _ _ (exec (Stmt.While _ _ _ _) _) _ _ _); with_reducible (with_reducible refine Stop.go ?_))) | walk1 | (dsimp only; walk1) | (leave1; (try dsimp only)))
      rw [List.take_of_length_le (by omega)] at hfa
      have hin : ∀ p ∈ (l, listOf (List.toArray vs) n) :: ex, p ∈ nw := allMem (hsub _ b3) fun _ hp => hsub _ (b4 _ (hxr _ hp))
      refine ret.of F9 (hW9 ▸ kept_led (fun p hp => (hl0 p hp).1) (fun p hp => N9.get (.tail _ (hin p hp)))) N9 (.head _) (fun hq => ?_) (by unfold textF; rw [← hfa]; exact ha)
      rw [← hW9] at hq
      obtain ⟨p, hp, e⟩ := List.mem_map.mp hq
      exact off1_mem off p (hin p hp) e
end

section
noncomputable def digL (c : Int) : List Nat := (Nat.toDigits 10 c.toNat).map Char.toNat
theorem textOf_cps {c : Int} (h : 0 ≤ c) : (textOf c).cps.toList = digL c := by
  obtain ⟨n, rfl⟩ := Int.eq_ofNat_of_zero_le h
  unfold textOf digL
  rw [Str.ofString_eq_toList]
  have e : toString ((n : Nat) : Int) = Nat.repr n := rfl
  rw [e, Nat.repr_eq_ofList_toDigits]
  simp
theorem digL_mem {c : Int} : ∀ d ∈ digL c, d ≠ 44 := by
  intro d hd
  obtain ⟨ch, h, rfl⟩ := List.mem_map.mp hd
  have := Nat.isDigit_of_mem_toDigits (by decide) (by decide) h
  simp only [Char.isDigit, Bool.and_eq_true, decide_eq_true_eq, ge_iff_le] at this
  have h1 := this.1
  intro e
  have : (48 : Nat) ≤ ch.toNat := h1
  omega
theorem digL_ne {c : Int} : digL c ≠ [] := by
  unfold digL
  intro e
  exact Nat.toDigits_ne_nil (List.map_eq_nil_iff.mp e)
theorem digL_inj {c d : Int} (hc : 0 ≤ c) (hd : 0 ≤ d) (h : digL c = digL d) : c = d := by
  unfold digL at h
  have inj : ∀ x y : List Char, x.map Char.toNat = y.map Char.toNat → x = y := fun x y e => (List.map_inj_right (fun a b q => Char.toNat_inj.mp q)).mp e
  have e := inj _ _ h
  have k := congrArg (fun l => Nat.ofDigitChars 10 l 0) e
  simp only [Nat.ofDigitChars_toDigits (b := 10) (by decide) (by decide)] at k
  omega
noncomputable def gl : List (List Nat) → List Nat
  | [] => []
  | [a] => a
  | a :: b :: r => a ++ 44 :: gl (b :: r)
theorem join_cps : ∀ l : List Str, (Txt.join (Str.ofString ",") l).cps.toList = gl (l.map (·.cps.toList)) := by
  intro l
  unfold Txt.join
  rw [StrLaws.glued_eq_join]
  induction l with
  | nil => rfl
  | cons c r ih =>
    cases r with
    | nil => rfl
    | cons d r =>
      rw [join_cons_cons, Str.cps_append, Str.cps_append, Array.toList_append, Array.toList_append, ih]
      show c.cps.toList ++ (Str.ofString ",").cps.toList ++ _ = c.cps.toList ++ 44 :: _
      rw [show (Str.ofString ",").cps.toList = [44] from by decide]
      simp
theorem gl_take : ∀ {a : List Nat} {r : List (List Nat)}, (∀ d ∈ a, d ≠ 44) → (gl (a :: r)).takeWhile (· != 44) = a ∧ (gl (a :: r)).dropWhile (· != 44) = (match r with | [] => [] | b :: r => 44 :: gl (b :: r))
  | a, [], h => by
    unfold gl
    induction a with
    | nil => exact ⟨rfl, rfl⟩
    | cons d a ih =>
      have h1 := h d (.head _)
      obtain ⟨i1, i2⟩ := ih fun x hx => h x (.tail _ hx)
      rw [List.takeWhile_cons, List.dropWhile_cons]
      simp only [bne_iff_ne, ne_eq, h1, not_false_eq_true, if_true]
      exact ⟨by rw [i1], i2⟩
  | a, b :: r, h => by
    show (a ++ 44 :: gl (b :: r)).takeWhile _ = a ∧ (a ++ 44 :: gl (b :: r)).dropWhile _ = _
    induction a with
    | nil => exact ⟨rfl, rfl⟩
    | cons d a ih =>
      have h1 := h d (.head _)
      obtain ⟨i1, i2⟩ := ih fun x hx => h x (.tail _ hx)
      rw [List.cons_append, List.takeWhile_cons, List.dropWhile_cons]
      simp only [bne_iff_ne, ne_eq, h1, not_false_eq_true, if_true]
      exact ⟨by rw [i1], i2⟩
theorem gl_inj : ∀ {cs ds : List Int}, (∀ c ∈ cs, 0 ≤ c) → (∀ c ∈ ds, 0 ≤ c) → gl (cs.map digL) = gl (ds.map digL) → cs = ds
  | [], [], _, _, _ => rfl
  | [], d :: ds, _, _, h => by
    exfalso
    have k := (gl_take (a := digL d) (r := ds.map digL) digL_mem).1
    rw [List.map_cons] at h
    rw [← h] at k
    exact digL_ne k.symm
  | c :: cs, [], _, _, h => by
    exfalso
    have k := (gl_take (a := digL c) (r := cs.map digL) digL_mem).1
    rw [List.map_cons] at h
    rw [h] at k
    exact digL_ne k.symm
  | c :: cs, d :: ds, hc, hd, h => by
    rw [List.map_cons, List.map_cons] at h
    have k1 := gl_take (a := digL c) (r := cs.map digL) digL_mem
    have k2 := gl_take (a := digL d) (r := ds.map digL) digL_mem
    rw [h] at k1
    have e1 := digL_inj (hc c (.head _)) (hd d (.head _)) (k1.1.symm.trans k2.1)
    have e2 := k1.2.symm.trans k2.2
    have e3 : cs = ds := by
      cases cs with
      | nil =>
        cases ds with
        | nil => rfl
        | cons y ds => simp at e2
      | cons x cs =>
        cases ds with
        | nil => simp at e2
        | cons y ds =>
          simp only [List.map_cons, List.cons.injEq, true_and] at e2
          exact gl_inj (fun z hz => hc z (.tail _ hz)) (fun z hz => hd z (.tail _ hz)) (by simpa using e2)
    rw [e1, e3]
theorem keyF_inj {cs ds : List Int} (hc : ∀ c ∈ cs, 0 ≤ c) (hd : ∀ c ∈ ds, 0 ≤ c) (h : keyF cs = keyF ds) : cs = ds := by
  refine gl_inj hc hd ?_
  have e := congrArg (fun x : Str => x.cps.toList) h
  unfold keyF at e
  simp only [join_cps, List.map_map] at e
  have f : ∀ l : List Int, (∀ c ∈ l, 0 ≤ c) → l.map ((fun x : Str => x.cps.toList) ∘ textOf) = l.map digL := fun l hl => List.map_congr_left fun c h => textOf_cps (hl c h)
  have f1 := f cs hc
  have f2 := f ds hd
  rw [← f1, ← f2]
  exact e
noncomputable def KRel (P : Params) (ex : List (Addr × Obj)) : List (Str × Value) → List Ent → Prop
  | [], [] => True
  | x :: xs, e :: ls => (x.1 = keyF e.1 ∧ ∃ a, x.2 = .ref a ∧ AbIn P ex a e) ∧ KRel P ex xs ls
  | _, _ => False
section
variable {P : Params} {ex : List (Addr × Obj)}
theorem KRel.abs : ∀ {xs : List (Str × Value)} {ls : List Ent}, KRel P ex xs ls → AbsIn P ex (xs.map (·.2)) ls
  | [], [], _ => trivial
  | _ :: _, _ :: _, ⟨⟨_, a, h1, h2⟩, r⟩ => ⟨⟨a, h1, h2⟩, r.abs⟩
  | [], _ :: _, x => x.elim
  | _ :: _, [], x => x.elim
theorem KRel.snoc {k : Str} {a : Addr} {e : Ent} (hk : k = keyF e.1) (ht : AbIn P ex a e) : ∀ {xs : List (Str × Value)} {ls : List Ent}, KRel P ex xs ls → KRel P ex (xs ++ [(k, .ref a)]) (ls ++ [e])
  | [], [], _ => ⟨⟨hk, a, rfl, ht⟩, trivial⟩
  | _ :: _, _ :: _, ⟨x, r⟩ => ⟨x, r.snoc hk ht⟩
  | [], _ :: _, x => x.elim
  | _ :: _, [], x => x.elim
noncomputable def Nn (e : Ent) : Prop := ∀ c ∈ e.1, 0 ≤ c
theorem KRel.put {a : Addr} {e : Ent} (ht : AbIn P ex a e) (he : Nn e) : ∀ {xs : List (Str × Value)} {ls : List Ent}, (∀ l ∈ ls, Nn l) → KRel P ex xs ls → KRel P ex (xs.map (fun kv => if kv.1 = keyF e.1 then (kv.1, .ref a) else kv)) (ls.map (fun x => if x.1 = e.1 then e else x))
  | [], [], _, _ => trivial
  | x :: _, l :: _, hn, ⟨⟨h1, b, h2, h3⟩, r⟩ => by
    refine ⟨?_, r.put ht he fun z hz => hn z (.tail _ hz)⟩
    show (if x.1 = keyF e.1 then (x.1, Value.ref a) else x).1 = keyF (if l.1 = e.1 then e else l).1 ∧ ∃ a', (if x.1 = keyF e.1 then (x.1, Value.ref a) else x).2 = .ref a' ∧ AbIn P ex a' (if l.1 = e.1 then e else l)
    by_cases q : l.1 = e.1
    · rw [if_pos (by rw [h1, q]), if_pos q]; exact ⟨by rw [h1, q], a, rfl, ht⟩
    · rw [if_neg (fun z => q (keyF_inj (hn l (.head _)) he (h1.symm.trans z))), if_neg q]; exact ⟨h1, b, h2, h3⟩
  | [], _ :: _, _, x => x.elim
  | _ :: _, [], _, x => x.elim
theorem KRel.has {e : Ent} (he : Nn e) : ∀ {xs : List (Str × Value)} {ls : List Ent}, (∀ l ∈ ls, Nn l) → KRel P ex xs ls → (xs.any fun kv => decide (kv.1 = keyF e.1)) = ls.any fun x => decide (x.1 = e.1)
  | [], [], _, _ => rfl
  | x :: xs, l :: ls, hn, ⟨⟨h1, _⟩, r⟩ => by
    rw [List.any_cons, List.any_cons, r.has he fun z hz => hn z (.tail _ hz)]
    congr 1
    refine decide_eq_decide.mpr ⟨fun z => keyF_inj (hn l (.head _)) he (h1.symm.trans z), fun z => by rw [h1, z]⟩
  | [], _ :: _, _, x => x.elim
  | _ :: _, [], _, x => x.elim
theorem KRel.store {a : Addr} {e : Ent} (ht : AbIn P ex a e) (he : Nn e) {xs : List (Str × Value)} {ls : List Ent} (hn : ∀ l ∈ ls, Nn l) (h : KRel P ex xs ls) : KRel P ex (PySem.stored xs (keyF e.1) (.ref a)) (putE ls e) := by
  unfold PySem.stored putE
  rw [h.has he hn]
  split
  · exact h.put ht he hn
  · exact h.snoc rfl ht
theorem KRel.all : ∀ {es : List Ent} {vs : List Value} {xs : List (Str × Value)} {ls : List Ent}, (∀ e ∈ es, Nn e) → (∀ l ∈ ls, Nn l) → AbsIn P ex vs es → KRel P ex xs ls → KRel P ex (storeAll xs es vs) (es.foldl putE ls)
  | [], [], _, _, _, _, _, h => h
  | e :: es, v :: vs, xs, ls, he, hn, ⟨⟨a, q, hA⟩, r⟩, h => by
    subst q
    show KRel P ex (storeAll (PySem.stored xs (keyF e.1) (.ref a)) es vs) (es.foldl putE (putE ls e))
    refine KRel.all (es := es) (ls := putE ls e) (fun z hz => he z (.tail _ hz)) (fun z hz => ?_) r (h.store hA (he e (.head _)) hn)
    rcases putE_mem hz with q | q
    · exact hn z q
    · exact q ▸ he e (.head _)
  | [], _ :: _, _, _, _, _, x, _ => x.elim
  | _ :: _, [], _, _, _, _, x, _ => x.elim
theorem KRel.start {es : List Ent} {vs : List Value} (he : ∀ e ∈ es, Nn e) (h : AbsIn P ex vs es) : KRel P ex (storeAll [] es vs) (lastE es) := KRel.all he (by simp) h trivial
end
theorem putE_len (ls : List Ent) (e : Ent) : (putE ls e).length ≤ ls.length + 1 := by unfold putE; split <;> simp
theorem foldE_len : ∀ (es ls : List Ent), (es.foldl putE ls).length ≤ ls.length + es.length
  | [], ls => by simp
  | e :: es, ls => by have := foldE_len es (putE ls e); have := putE_len ls e; simp only [List.foldl_cons, List.length_cons]; omega
theorem lastE_len (es : List Ent) : (lastE es).length ≤ es.length := by unfold lastE; have := foldE_len es []; simpa using this
theorem entryAt_2le {cs : List Int} {p p' : Nat} {e : Ent} (h : entryAt cs p = some (e, p')) : p + 2 ≤ p' := by
  unfold entryAt at h
  split at h
  · cases h
  · rename_i q
    split at h
    · split at h
      · cases h
      · rename_i q2
        split at h
        · split at h
          · cases h
          · rename_i q3
            have h1 := quotedAt_lt q
            have h2 := numAt_le q2
            have h3 := quotedAt_lt q3
            have h4 := entryEnd_lt h
            rw [List.length_drop] at h2
            omega
        · cases h
    · cases h
theorem entsF_len {cs : List Int} : ∀ (k p : Nat) (es : List Ent), entsF cs k p = some es → p ≤ cs.length → p + 2 * es.length ≤ cs.length
  | 0, p, es, h, _ => by simp [entsF] at h
  | k + 1, p, es, h, hp => by
    unfold entsF at h
    split at h
    · split at h
      · cases h
      · rename_i e p' q
        obtain ⟨es', h1, rfl⟩ := Option.map_eq_some_iff.mp h
        have h2 := entryAt_2le q
        have h3 := (entryAt_lt q).2
        have := entsF_len k p' es' h1 h3
        simp only [List.length_cons]; omega
    · cases h; simp; exact hp
theorem ents_few {cs : List Int} {es : List Ent} (h : entsOf cs = some es) (hl : cs.length < 128) : es.length < 64 := by
  have := entsF_len _ 0 es h (Nat.zero_le _)
  omega
end

section
theorem ErrD.ns {h : Heap} {dE : Addr} {oD : Obj} (hD : ErrD oD) (hd : h.get? dE = some oD) : ∃ tk v, h.Ns dE (fun y => if y = "data" then some v else if y = "symbol" then some (.str (Str.ofString "error") tk) else none) := by
  obtain ⟨es, ep, tk, v, a, b, c, d⟩ := hD
  exact ⟨tk, v, oD, es, ep, hd, a, b, d⟩
section
variable {prog : Program} {w : World} {A : Around} {E : Value → Shared → Prop} {h : Heap} {g : Array GenState} {d : Drawn} {t : Nat} {os : OsState} {e dE t0 : Addr} {oD : Obj} {tb : Value}
  {nm q : Str} {bs : List Value} {sn : List Str} {sub : List Value} {ab : Bool} {col : Option Bool} {dd : Option Addr} {k0 k1 k2 k3 k5 : Option Value} {mN : Str → Option Value}
theorem sym_check {M : Model} {nameV : Value} {Q : Unit → Shared → Prop} (hC : h.get? 78 = some (excClassObj nm q 78 77 bs [.type "Exception", .type "BaseException", .type "object"] true sn sub ab col dd k0 k1 k2 k3 k5 "Exception.__new__"))
    (hx : h.get? e = some (excObj dE t0 tb)) (hq : Q () ⟨h, g, d, t, os⟩) : wpAny M A (checkBuiltinCall "BaseException.__getattribute__" ⟨[.ref e, nameV], []⟩) Q E ⟨h, g, d, t, os⟩ := by
  have hk : builtinKind "BaseException.__getattribute__" = some .slot := by decide +kernel
  have hsplit : splitId "BaseException.__getattribute__" = some ("BaseException", "__getattribute__") := by decide +kernel
  have hcB : (Value.ref 78 :: [.type "Exception", .type "BaseException", .type "object"]).contains (.type "BaseException") = true := by decide +kernel
  have hc : (excObj dE t0 tb).cls = .ref 78 := rfl
  have ha := PySem.F.args_bexc_ga (.ref e) nameV
  simp only [checkBuiltinCall, hk, hsplit]
  refine wpAny_bind ?_
  · unfold isInstance
    repeat (first | (with_reducible refine wpAny_loadPart_at hx ?_; rw [hc]) | (with_reducible refine wpAny_isSubtype_exc hC ?_; rw [hcB]) | wp_step)
    exact hq
theorem sym_entry {tk : Tok} {Q : Fin → Shared → Prop} (hC : h.get? 78 = some (excClassObj nm q 78 77 bs [.type "Exception", .type "BaseException", .type "object"] true sn sub ab col dd k0 k1 k2 k3 k5 "Exception.__new__"))
    (hn : h.Ns 77 mN) (hsy : mN "symbol" = none) (hx : h.get? e = some (excObj dE t0 tb)) (hd : h.get? dE = some oD) (hD : ErrD oD) (hq : ∀ u, Q (.done (.ret (.str (Str.ofString "error") u))) ⟨h, g, d, t, os⟩) :
    wpAny (model prog w) A (Builtin.«object.__getattribute__» ⟨[.ref e, .str "symbol" tk], []⟩) Q E ⟨h, g, d, t, os⟩ := by
  obtain ⟨u, v, hns⟩ := hD.ns hd
  have hc : (excObj dE t0 tb).cls = .ref 78 := rfl
  have hdt : (excObj dE t0 tb).dict = some dE := rfl
  have hm : mroOf (.type "Exception") = pure [.type "Exception", .type "BaseException", .type "object"] := by kernel_rfl
  have hq' := hq u
  unfold Builtin.«object.__getattribute__»
  repeat (any_goals (first | assumption | (with_reducible refine wpAny_loadPart_at hx ?_; rw [hc]) | (with_reducible refine wpAny_loadPart_at hx ?_; rw [hdt]) | with_reducible refine wpAny_loadPart_at hC ?_ | (with_reducible refine wpAny_typeLookup_exc hC hn hm lk_symbol ?_; rw [hsy]) | with_reducible refine wpAny_nsGet hns ?_ | wp_step))
theorem sym_call {tk : Tok} {R : Result → Shared → Prop} (hC : h.get? 78 = some (excClassObj nm q 78 77 bs [.type "Exception", .type "BaseException", .type "object"] true sn sub ab col dd k0 k1 k2 k3 k5 "Exception.__new__"))
    (hn : h.Ns 77 mN) (hsy : mN "symbol" = none) (hx : h.get? e = some (excObj dE t0 tb)) (hd : h.get? dE = some oD) (hD : ErrD oD) (hq : ∀ u, R (.ok (.ret (.str (Str.ofString "error") u))) ⟨h, g, d, t, os⟩) :
    codeAny (model prog w) A (.call (.builtin "BaseException.__getattribute__") ⟨[.ref e, .str "symbol" tk], []⟩) R ⟨h, g, d, t, os⟩ :=
  codeAny_call_builtin PySem.F.attrBase_Exception.ga.plain PySem.F.entry_bexc_ga (sym_check hC hx (sym_entry hC hn hsy hx hd hD hq))
theorem sym_by {tk : Tok} {fill expr : Bool} {Q : Value → Shared → Prop} (hC : h.get? 78 = some (excClassObj nm q 78 77 bs [.type "Exception", .type "BaseException", .type "object"] true sn sub ab col dd k0 k1 k2 k3 k5 "Exception.__new__"))
    (hn : h.Ns 77 mN) (hsy : mN "symbol" = none) (hga : mN "__getattribute__" = none) (hgt : mN "__getattr__" = none) (hx : h.get? e = some (excObj dE t0 tb)) (hd : h.get? dE = some oD) (hD : ErrD oD) (hq : ∀ u, Q (.str (Str.ofString "error") u) ⟨h, g, d, t, os⟩) :
    wpAny (model prog w) A (getAttrBy (.ref e) (.str "symbol" tk) fill expr) Q E ⟨h, g, d, t, os⟩ := by
  have FB := PySem.F.attrBase_Exception
  have f3 := FB.ga.bind (.ref e)
  have hc : (excObj dE t0 tb).cls = .ref 78 := rfl
  have hx0 : (expr && onTheHeap (Value.builtin "BaseException.__getattribute__")) = false := by cases expr <;> rfl
  have hx2 : (Value.builtin "BaseException.__getattribute__" == Value.builtin "object.__getattribute__") = false := by decide +kernel
  have hx1 : (onTheHeap (Value.ref 78) && Value.builtin "BaseException.__getattribute__" == Value.builtin "object.__getattribute__") = false := by rw [hx2]; rfl
  unfold getAttrBy
  repeat (any_goals (first | assumption | (with_reducible refine wpAny_loadPart_at hx ?_; rw [hc]) | (with_reducible refine wpAny_typeLookup_exc hC hn FB.mro FB.ga.lookup ?_; rw [hga]) | (with_reducible refine wpAny_typeLookup_exc hC hn FB.mro FB.noGetattr ?_; rw [hgt]) | wp_step))
  refine sym_call hC hn hsy hx hd hD fun u => ?_
  have hq' := hq u
  repeat (any_goals (first | assumption | wp_step))
theorem sym_attr {expr : Bool} {Q : Value → Shared → Prop} (hC : h.get? 78 = some (excClassObj nm q 78 77 bs [.type "Exception", .type "BaseException", .type "object"] true sn sub ab col dd k0 k1 k2 k3 k5 "Exception.__new__"))
    (hn : h.Ns 77 mN) (hsy : mN "symbol" = none) (hga : mN "__getattribute__" = none) (hgt : mN "__getattr__" = none) (hx : h.get? e = some (excObj dE t0 tb)) (hd : h.get? dE = some oD) (hD : ErrD oD) (hq : ∀ u, Q (.str (Str.ofString "error") u) ⟨h, g, d, t + 1, os⟩) :
    wpAny (model prog w) A (getAttr (.ref e) "symbol" expr) Q E ⟨h, g, d, t, os⟩ := by
  unfold getAttr
  repeat (any_goals (first | assumption | with_reducible apply sym_by hC hn hsy hga hgt hx hd hD | wp_step))
end
theorem sym_of {w : World} {s : Shared} {A : Around} {E : Value → Shared → Prop} {e dE t0 : Addr} {oD : Obj} {tb : Value} {expr : Bool} {Q : Value → Shared → Prop} {prog : Program} (X : (hd.heap_39 w.params).In s.heap) (hx : s.heap.get? e = some (excObj dE t0 tb)) (hd : s.heap.get? dE = some oD) (hD : ErrD oD)
    (hq : ∀ u tk, Q (.str (Str.ofString "error") u) { s with toks := tk }) : wpAny (model prog w) A (getAttr (.ref e) "symbol" expr) Q E s := by
  obtain ⟨_, _, _, _, _, _, _, _, _, _, _, _, _, hC⟩ := cls78 X
  obtain ⟨n0, n1, n2, n3, n4, n5⟩ := ns77 X
  obtain ⟨h, g, d, t, os⟩ := s
  exact sym_attr hC n0 n2 n4 n5 hx hd hD fun u => hq u _
end

section
set_option maxHeartbeats 200000
section
variable {prog : Program} {w : World} {A : Around} {E : Value → Shared → Prop} {s : Shared} {env : Env}
theorem canLay_ints : ∀ ns : List Int, PyData.canLay0 (.list (ns.map PyData.int)) = true := fun ns => SeqAt.canLay_of_shaped (shaped_ints ns)
theorem eq_ints_lists {a b : Addr} {vs us : List Value} {ns ms : List Int} {Q : Value → Shared → Prop} (hl : s.heap.IsList a vs.toArray) (hi : IntsAre vs ns) (hl' : s.heap.IsList b us.toArray) (hi' : IntsAre us ms) (hu : A.units + 64 < cLine) (h : Q (.bool (decide (ns = ms))) s) :
    wpAny (model prog w) A (compareOp .Eq (.ref a) (.ref b)) Q E s := by
  refine SeqAt.compareEq_reads (reads_of_ints hl hi) (reads_of_ints hl' hi') (canLay_ints ns) (canLay_ints ms) ?_ ?_
  · exact SeqAt.room_of_shaped (shaped_ints ns) hu
  · have e : PyData.eqv (.list (ns.map PyData.int)) (.list (ms.map PyData.int)) = decide (ns = ms) := by
      rw [← SeqAt.same_eq_eqv _ _ (by simp only [SeqAt.noMix]; exact noMix_ints ns ms)]
      simp only [PySem.Spec.same]
      exact same_ints ns ms
    rw [e]; exact h
theorem handle78 {A' : Around} {e : Addr} {t : Expr} {n : Str} {b₀ : Stmt} {suite : List Stmt} {pos : Pos} {rest : List ExceptHandler} {Q : Flow → Shared → Prop}
    (hA : A.mark (some (.ref e)) = A')
    (h : wpAny (model prog w) A' (eval t env) (fun c s₁ => Stop (c = .ref 78 ∧ (hd.heap_39 w.params).In s₁.heap ∧ (∃ oe, s₁.heap.get? e = some oe ∧ oe.cls = .ref 78) ∧
      wpAny (model prog w) A' (setFlight (.ref e) none) (fun _ s₂ =>
          wpAny (model prog w) A' (storeName env n (.ref e)) (fun _ s₃ =>
            wpAny (model prog w) A' (execs (b₀ :: suite) env)
              (fun f s₄ => wpAny (model prog w) A (do bindName env n .none; unbindBehindTheSuite env n pos) (fun _ s₅ => Q f s₅) E s₄)
              (AsSuiteRaised (model prog w) A' env n pos (notedBy (model prog w) A' env (cameBackBy (model prog w) A env E))) s₃) (notedBy (model prog w) A' env (cameBackBy (model prog w) A env E)) s₂) (notedBy (model prog w) A' env (cameBackBy (model prog w) A env E)) s₁)) (notedBy (model prog w) A' env (cameBackBy (model prog w) A env E)) s) :
    wpAny (model prog w) A (handleBy (.ref e) env (.ExceptHandler (some t) (some n) (b₀ :: suite) pos :: rest)) Q E s := by
  subst hA
  refine wpAny_handleBy_cons (codeAny_handlers_test (wpAny_mono h (fun c s₁ h₁ => ?_) fun _ _ y => y)) (by intro q; cases q)
  obtain ⟨rfl, X, ⟨oe, he, hcls⟩, hk⟩ := h₁
  obtain ⟨_, _, _, _, _, _, _, _, _, _, _, _, _, hC⟩ := cls78 X
  obtain ⟨hh, g, d, tk, os⟩ := s₁
  exact wpAny_excMatches_sub_self hC he hcls (by decide +kernel) (codeAny_handlers_suite_as hk)
end
section
variable {M : Model} {A : Around} {E : Value → Shared → Prop} {s : Shared} {c h₀ : Heap} {env : Env} {outer : List Env} {L e : Addr} {Q : Unit → Shared → Prop}
theorem rz_catch (hfr : A.frames = some (env :: outer)) (hf : env.frame = some L) (Z : Rz c (env :: outer) e h₀ s.heap)
    (hQ : ∀ h', Rz c (env :: outer) e h₀ h' → Q () { s with heap := h' }) : wpAny M A (noteFrame (.ref e) env) (fun _ s₂ => wpAny M A (setFlight (.ref e) none) Q E s₂) E s := by
  obtain ⟨⟨dE, t, oD, F, hD⟩, sl, z⟩ := Z
  refine note_next hfr hf F fun h₂ F₂ K₂ z₂ => ?_
  refine flight_none F₂ fun h₃ F₃ k₃ z₃ => ?_
  refine hQ h₃ ⟨⟨dE, t, oD, F₃, hD⟩, fun a o ha q nf => ?_, Nat.le_trans z (Nat.le_trans z₂ (Nat.le_of_eq z₃))⟩
  obtain ⟨sl₁, q₁⟩ := sl a o ha q nf
  obtain ⟨tb, he, _⟩ := F.exc
  obtain ⟨⟨sl₂, q₂⟩, _⟩ := K₂ a { o with slots := sl₁ } (by rintro rfl; rw [he] at q₁; injection q₁ with q₁; exact nf _ (congrArg Obj.data q₁).symm) (.inr fun vs q => nf vs q) q₁
  exact ⟨sl₂, k₃ a { o with slots := sl₂ } (.inr fun vs q => nf vs q) q₂⟩
theorem rz_flight (Z : Rz c outer e h₀ s.heap)
    (hQ : ∀ h', Rz c outer e h₀ h' → Q () { s with heap := h' }) : wpAny M A (setFlight (.ref e) none) Q E s := by
  obtain ⟨⟨dE, t, oD, F, hD⟩, sl, z⟩ := Z
  refine flight_none F fun h₃ F₃ k₃ z₃ => ?_
  refine hQ h₃ ⟨⟨dE, t, oD, F₃, hD⟩, fun a o ha q nf => ?_, Nat.le_trans z (Nat.le_of_eq z₃)⟩
  obtain ⟨sl₁, q₁⟩ := sl a o ha q nf
  exact ⟨sl₁, k₃ a { o with slots := sl₁ } (.inr fun vs q => nf vs q) q₁⟩
end
theorem ledger_at {h : Heap} : ∀ (l : List Addr), (∀ a ∈ l, ∃ o, h.get? a = some o) → ∃ ex : List (Addr × Obj), ex.map (·.1) = l ∧ ∀ p ∈ ex, h.get? p.1 = some p.2
  | [], _ => ⟨[], rfl, by simp⟩
  | a :: l, k => by
    obtain ⟨o, e⟩ := k a (.head _)
    obtain ⟨ex, e1, e2⟩ := ledger_at l fun x hx => k x (.tail _ hx)
    refine ⟨(a, o) :: ex, by rw [List.map_cons, e1], fun p hp => ?_⟩
    rcases List.mem_cons.mp hp with rfl | hp
    · exact e
    · exact e2 p hp
theorem ns_slots {h : Heap} {a : Addr} {m : Str → Option Value} (n : h.Ns a m) : ∃ o, h.get? a = some o ∧ (∀ vs, o.data ≠ .fields vs) ∧ ∀ (h' : Heap) sl, h'.get? a = some { o with slots := sl } → h'.Ns a m := by
  obtain ⟨o, es, ep, e, d, r⟩ := n
  exact ⟨o, e, fun vs q => (by rw [d] at q; cases q), fun h' sl e' => ⟨_, es, ep, e', d, r⟩⟩
section
variable {w : World} {mean : ExcName → Option Value} {mg mb : Str → Option Value} {g : Heap} {s : Shared} {A : Around} {dp un tk : Nat} {fr : Option (List Env)} {gd : Option (List Code)} {m : Str → Option Value} {L l : Addr} {vs : List Value} {cs : List Int}
  {news : List (Addr × Obj)} {E : Value → Shared → Prop} {Q : Value → Shared → Prop}
theorem lents_call (S : Sx w mean mg mb g) (F : Fr g L s.heap m) (N : News g L s.heap news) (hl : s.heap.IsList l vs.toArray) (hi : IntsAre vs cs) (hlen : cs.length < 500) (hcs : ∀ c ∈ cs, 0 ≤ c ∧ c < 1000000) (hA : A = ⟨none, dp, fr, gd, un⟩) (hroom : dp + 40 < recursionLimit) (hu : un ≤ 8890)
    (k0 : entsOf cs = none → ∀ h' tk, Fr g L h' m → News g L h' news → Q .none { s with heap := h', toks := tk })
    (k1 : ∀ es, entsOf cs = some es → ∀ D vs' n' ex h' tk, Fr g L h' m → News g L h' (((D, listOf (List.toArray vs') n') :: ex) ++ news) → (∀ p ∈ (D, listOf (List.toArray vs') n') :: ex, AllNe p.1 news) → Rels (TupIn ex) vs' es → Q (.ref D) { s with heap := h', toks := tk }) :
    wpAny (model PySem.Challenge.rw_on0064_01.row.prog w) A (call (.ref 238) [.ref l]) Q E s := by
  subst hA
  refine wpAny_call (lents_spec S F.keep hl hi hlen hcs hroom hu fun v h' tk K x => ?_)
  unfold LEnts at x
  cases hq : entsOf cs with
  | none =>
    rw [hq] at x
    subst x
    exact k0 hq h' tk (Fr.kp0 F K) (News.kp0 N K)
  | some es =>
    rw [hq] at x
    obtain ⟨D, vs', n', ex, rfl, h0, h1, hR, hx⟩ := x
    have hall : ∀ p ∈ (D, listOf (List.toArray vs') n') :: ex, h'.get? p.1 = some p.2 ∧ s.heap.get? p.1 = none := by
      intro p hp
      rcases List.mem_cons.mp hp with rfl | hp
      · exact ⟨h1, h0⟩
      · exact hx p hp
    refine k1 es hq D vs' n' ex h' tk (Fr.kp0 F K) (fun p hp => ?_) (fun p hp => allNe_of fun q hq e => ?_) hR
    · rcases List.mem_append.mp hp with hp | hp
      · have h2 := hall p hp
        exact News.add F K (News.kp0 N K) h2.2 h2.1 p (.head _)
      · exact News.kp0 N K p hp
    · have h2 := (N q hq).1
      rw [e, (hall p hp).2] at h2; cases h2
end
end

section
set_option maxHeartbeats 1000000
local macro_rules | `(tactic| k_mem) => `(tactic| with_reducible assumption)
local macro_rules | `(tactic| k_all) => `(tactic| with_reducible assumption)
section
variable {b g g2 c h h1 : Heap} {s : Shared} {W : List Addr} {fr : List Env} {L D en : Addr} {m : Str → Option Value} {news : List (Addr × Obj)} {name : Str} {scope : Scope} {a : Addr} {cd : Value}
theorem Fr.less (F : Fr g L h m) (k : ∀ x o, g2.get? x = some o → g.get? x = some o) (hz : g2.objs.size ≤ L) : Fr g2 L h m := ⟨F.ns, fun x o e => F.keep x o (k x o e), hz⟩
theorem News.less (N : News g L h news) (k : ∀ x o, g2.get? x = some o → g.get? x = some o) : News g2 L h news := fun p hp => by
  refine ⟨(N p hp).1, (N p hp).2.1, ?_⟩
  cases q : g2.get? p.1 with
  | none => rfl
  | some o => have := k _ _ q; rw [(N p hp).2.2] at this; cases this
theorem hide_app (x : Addr) (o : Obj) (e : (hideAll h (W ++ frs fr)).get? x = some o) : (hideAll h W).get? x = some o := by
  refine hideAll_get _ (of_hideAll _ e) fun q => ?_
  rw [hideAll_none _ (List.mem_append_left _ q)] at e; cases e
theorem notin_lt {D : Addr} : ∀ {led : List (Addr × Obj)}, AllLt D led → D ∉ led.map (·.1)
  | [], _, h => by simp at h
  | p :: r, ⟨x, y⟩, h => by
    rcases List.mem_cons.mp h with q | q
    · exact absurd x (by rw [q]; exact Nat.lt_irrefl _)
    · exact notin_lt y q
theorem frs_mem (ff : h.FunFrames b fr) {x : Addr} (hx : x ∈ frs fr) : b.get? x = none ∧ ∃ o, h.get? x = some o ∧ ∀ vs, o.data ≠ .fields vs := ff.mem hx
theorem ctx_here (hbs : b.StaysIn s.heap) (ff : s.heap.FunFrames b fr) (hW : ∀ x ∈ W, x ∉ frs fr) (F : Fr (hideAll s.heap W) s.heap.objs.size h m) (N : News (hideAll s.heap W) s.heap.objs.size h news) {o : Obj} (hD : (D, o) ∈ news) (hDW : D ∉ W) (hk : scope.kind = .function) :
    Ctx (hideAll h (D :: s.heap.objs.size :: frs fr)) h [D] (envOf name scope s.heap.objs.size a cd :: fr) := by
  have hDn : s.heap.get? D = none := fresh_of N hD hDW
  have hfr : frs (envOf name scope s.heap.objs.size a cd :: fr) = s.heap.objs.size :: frs fr := frs_cons rfl
  have f1 : h.FunFrames b fr := funFrames_kp ff (kp_of F) hW
  have f2 : h.FunFrames b (envOf name scope s.heap.objs.size a cd :: fr) := funFrames_top (.inr (by
    cases q : b.get? s.heap.objs.size with
    | none => rfl
    | some o => exact absurd (Heap.lt_size (hbs _ _ q)) (Nat.lt_irrefl _))) F f1 hk
  have f3 := funFrames_hide (as := D :: s.heap.objs.size :: frs fr) f2 fun env he x hx => .tail _ (hfr ▸ List.mem_filterMap.mpr ⟨env, he, hx⟩)
  refine ⟨fun x o e => of_hideAll _ e, fun x hx => hideAll_none _ (by rw [List.mem_singleton.mp hx]; exact .head _), f3, fun x hx hm => ?_⟩
  rw [List.mem_singleton.mp hx, hfr] at hm
  rcases List.mem_cons.mp hm with q | hm
  · exact (N _ hD).2.1 q
  · obtain ⟨_, o, ho, _⟩ := frs_mem ff hm
    rw [hDn] at ho; cases ho
theorem hgc_here (F : Fr (hideAll s.heap W) s.heap.objs.size h m) (N : News (hideAll s.heap W) s.heap.objs.size h news) {o : Obj} (hD : (D, o) ∈ news) :
    (hideAll s.heap (W ++ frs fr)).StaysIn (hideAll h (D :: s.heap.objs.size :: frs fr)) := fun x o e => by
  have e1 := hide_app _ _ e
  refine hideAll_get _ (F.keep _ _ e1) fun q => ?_
  rcases List.mem_cons.mp q with rfl | q
  · rw [(N _ hD).2.2] at e1; cases e1
  · rcases List.mem_cons.mp q with rfl | q
    · rw [Heap.get?_none_of_le F.above] at e1; cases e1
    · rw [hideAll_none _ (List.mem_append_right _ q)] at e; cases e
theorem kps_end {led : List (Addr × Obj)} {h9 : Heap} (hW9 : led.map (·.1) = W) (hled : ∀ p ∈ led, s.heap.get? p.1 = some p.2) (hk : ∀ p ∈ led, p.1 ≠ en → h9.get? p.1 = some p.2)
    (hF : ∀ a ∈ frs fr, ∀ o, s.heap.get? a = some o → ∃ sl, h9.get? a = some { o with slots := sl }) (F : Fr (hideAll s.heap (W ++ frs fr)) s.heap.objs.size h9 m) : Kps [en] fr s.heap h9 := by
  refine ⟨Nat.le_of_lt F.ns.lt, fun x o hx e => ?_⟩
  have hxe : x ≠ en := fun q => hx (by rw [q]; exact .head _)
  by_cases h1 : x ∈ frs fr
  · exact ⟨hF x h1 o e, fun q => absurd h1 q⟩
  · have h2 : h9.get? x = some o := by
      by_cases h3 : x ∈ W
      · rw [← hW9] at h3
        obtain ⟨p, hp, rfl⟩ := List.mem_map.mp h3
        rw [hled p hp] at e; cases e
        exact hk p hp hxe
      · exact F.keep x o (hideAll_get _ e fun q => (List.mem_append.mp q).elim h3 h1)
    exact ⟨⟨o.slots, h2⟩, fun _ => h2⟩
theorem kp_end {led : List (Addr × Obj)} {h9 : Heap} (hW9 : led.map (·.1) = W) (hled : ∀ p ∈ led, s.heap.get? p.1 = some p.2) (hk : ∀ p ∈ led, p.1 ≠ en → h9.get? p.1 = some p.2)
    (F : Fr (hideAll s.heap W) s.heap.objs.size h9 m) : Kp [en] s.heap h9 := by
  refine ⟨Nat.le_of_lt F.ns.lt, fun x o hx e => ?_⟩
  have hxe : x ≠ en := fun q => hx (by rw [q]; exact .head _)
  by_cases h3 : x ∈ W
  · rw [← hW9] at h3
    obtain ⟨p, hp, rfl⟩ := List.mem_map.mp h3
    rw [hled p hp] at e; cases e
    exact hk p hp hxe
  · exact F.keep x o (hideAll_get _ e h3)
theorem allLt_mem {d : Nat} : ∀ {l : List (Addr × Obj)}, AllLt d l → ∀ p ∈ l, @LT.lt Nat _ p.1 d
  | [], _, q, hq => by simp at hq
  | p :: r, ⟨x, y⟩, q, hq => by
    rcases List.mem_cons.mp hq with rfl | hq
    · exact x
    · exact allLt_mem y q hq
theorem fr_caught {e : Addr} (Z : Rz c (envOf name scope L a cd :: fr) e h h1) (F : Fr g L h m) (hg : g.StaysIn c) : Fr g L h1 m := by
  obtain ⟨⟨dE, t, oD, FA, hD⟩, sl, z⟩ := Z
  refine ⟨?_, fun x o q => FA.stays x o (hg x o q), F.above⟩
  obtain ⟨o, e1, nf, k⟩ := ns_slots F.ns
  obtain ⟨s1, e2⟩ := sl L o (by rw [frs_cons rfl]; exact .head _) e1 nf
  exact k h1 s1 e2
theorem news_caught {e : Addr} (Z : Rz c (envOf name scope L a cd :: fr) e h h1) (N : News g L h news) (hc : ∀ p ∈ news, c.get? p.1 = some p.2) : News g L h1 news := by
  obtain ⟨⟨dE, t, oD, FA, hD⟩, sl, z⟩ := Z
  exact fun p hp => ⟨FA.stays _ _ (hc p hp), (N p hp).2⟩
end
set_option maxHeartbeats 1000000 in
theorem alike_spec {w : World} {mean mg mb} {b : Heap} {s : Shared} {dp un : Nat} {fr : List Env} {gd : Option (List Code)} {R : Result → Shared → Prop} {tx tdx en pa lc lb : Addr} {nm : Str} {u0 u1 u2 u3 u4 : Tok} {oE : Obj} {kvs : List (Str × Value)} {ex : List (Addr × Obj)} {es : List Ent} {vc vb : List Value} {nc nb : Nat} {cs bs : List Int}
    (S : Sx w mean mg mb b) (hb : b.StaysIn s.heap) (ff : s.heap.FunFrames b fr)
    (hl0 : ∀ p ∈ (en, oE) :: (tx, tbObj tdx) :: (tdx, tbDict w.params nm pa en u0 u1 u2 u3 u4) :: (lc, listOf (List.toArray vc) nc) :: (lb, listOf (List.toArray vb) nb) :: ex, s.heap.get? p.1 = some p.2 ∧ b.get? p.1 = none ∧ p.1 ∉ frs fr)
    (hE : oE.IsDictOf (PySem.strKind PySem.Challenge.rw_on0064_01.row.prog w) kvs) (lo : (en == sysModules) = false) (hte : @Ne Nat tdx en) (hxe : ∀ p ∈ ex, p.1 ≠ en)
    (hab : AbsIn w.params ex (kvs.map (·.2)) es) (hok : ∀ e ∈ es, EntOk e) (h64 : kvs.length < 64)
    (hic : IntsAre vc cs) (hib : IntsAre vb bs) (hlen : cs.length < 128) (hcs : ∀ c ∈ cs, 0 ≤ c ∧ c < 1000000)
    (c1 : entsOf cs = none → bs = textF es) (c2 : entsOf cs ≠ none → kvs = [])
    (hroom : dp + 300 < recursionLimit) (hu : un ≤ 8800)
    (ret : ∀ h' tk, Kps [en] fr s.heap h' → R (.ok (.ret (.bool true))) { s with heap := h', toks := tk }) :
    codeAny (model PySem.Challenge.rw_on0064_01.row.prog w) ⟨none, dp, some fr, gd, un⟩ (.call (.ref 250) ⟨[.ref tx, .ref lc, .ref lb], []⟩) R s := by
  (have KX9 : Fill Mine.hd.heap_39 PySem.Challenge.rw_on0064_01 := (by k_fill; exact trivial); clear KX9)
  have q0 : ∀ p ∈ ex, @LT.lt Nat _ p.1 s.heap.objs.size := fun p hp => Heap.lt_size (hl0 p (tt5 hp)).1
  refine' enter (binds := [(Str.ofString "_law_table", .ref tx), (Str.ofString "_law_codes", .ref lc), (Str.ofString "_law_before", .ref lb)]) S hb (((en, oE) :: (tx, tbObj tdx) :: (tdx, tbDict w.params nm pa en u0 u1 u2 u3 u4) :: (lc, listOf (List.toArray vc) nc) :: (lb, listOf (List.toArray vb) nb) :: ex).map (·.1)) ?hW ?ho ?hcd (by show dp < _; omega) ?hbind ?hloc ?_ ?hcell ?c2 ?c3 ?c4
  case hW => intro a ha; obtain ⟨p, hp, rfl⟩ := List.mem_map.mp ha; exact (hl0 p hp).2.1
  ((case ho => ((conv => lhs; whnf); (first | (conv in (occs := *) fd9 _ => all_goals whnf) | (conv in (occs := *) md9 _ _ => all_goals whnf)); (try dsimp only); exact rfl)); (case hcd => k_is); (case hbind => exact BindsTo.of_eq rfl); (case hloc => exact locs rfl); (case hcell => decide); (case c2 => exact rfl); (case c3 => exact rfl); (case c4 => exact rfl))
  intro g L h₁ S' hg hL F K1 env9 Q9 E9
  subst hg hL
  have X := S'.X
  have T := S'.T
  generalize hW9 : List.map (·.1) ((en, oE) :: (tx, tbObj tdx) :: (tdx, tbDict w.params nm pa en u0 u1 u2 u3 u4) :: (lc, listOf (List.toArray vc) nc) :: (lb, listOf (List.toArray vb) nb) :: ex) = W at *
  have N : News (hideAll s.heap W) s.heap.objs.size h₁ ((en, oE) :: (tx, tbObj tdx) :: (tdx, tbDict w.params nm pa en u0 u1 u2 u3 u4) :: (lc, listOf (List.toArray vc) nc) :: (lb, listOf (List.toArray vb) nb) :: ex) := news_of K1 fun p hp => ⟨hW9 ▸ List.mem_map_of_mem hp, (hl0 p hp).1⟩
  have hvc := hic.length
  repeat' (first | (k_unfold; (try dsimp only)) | (k_end; kc_close) | (first | ((with_reducible show wpAny _ _ (call (Value.ref _) _ _) _ _ _); first | ((with_unfolding_all show wpAny _ _ (call (Value.ref 183) [Value.ref _, Value.ref _]) _ _ _); with_reducible refine Stop.go ?_) | ((with_unfolding_all show wpAny _ _ (call (Value.ref 243) [Value.ref _]) _ _ _); with_reducible refine Stop.go ?_) | ((with_unfolding_all show wpAny _ _ (call (Value.ref 106) [Value.ref _]) _ _ _); with_reducible refine Stop.go ?_) | ((with_unfolding_all show wpAny _ _ (call (Value.ref 238) [Value.ref _]) _ _ _); with_reducible refine Stop.go ?_)) | ((with_reducible show wpAny _ _ (exec (Stmt.Try _ _ _ _ _) _) _ _ _); with_reducible (with_reducible refine Stop.go ?_)) | ((with_reducible show wpAny _ _ (exec (Stmt.While _ _ _ _) _) _ _ _); with_reducible (with_reducible refine Stop.go ?_))) | walk1 | (dsimp only; walk1) | (leave1; (try dsimp only)))
  have hWb : ∀ x ∈ W, b.get? x = none := by intro a ha; rw [← hW9] at ha; obtain ⟨p, hp, rfl⟩ := List.mem_map.mp ha; exact (hl0 p hp).2.1
  have hWf : ∀ x ∈ W, x ∉ frs fr := by intro a ha; rw [← hW9] at ha; obtain ⟨p, hp, rfl⟩ := List.mem_map.mp ha; exact (hl0 p hp).2.2
  have hWs : ∀ x ∈ W, ∃ o, s.heap.get? x = some o := by intro a ha; rw [← hW9] at ha; obtain ⟨p, hp, rfl⟩ := List.mem_map.mp ha; exact ⟨_, (hl0 p hp).1⟩
  have hW2 : ∀ x ∈ W ++ frs fr, b.get? x = none := by
    intro x hx
    rcases List.mem_append.mp hx with hx | hx
    · exact hWb x hx
    · exact (frs_mem ff hx).1
  have S2 : Sx w mean mg mb (hideAll s.heap (W ++ frs fr)) := S.keeps (hide_stays hb hW2)
  refine Stop.go (lents_call S' F N (N.isList mm3) hic (by omega) hcs rfl (by dsimp only [Around.deeper]; omega) (by dsimp only [Around.deeper]; omega) ?_ ?_)
  · intro hq h2 tk2 F2 N2
    clear F N
    (try dsimp only)
    repeat' (first | (k_unfold; (try dsimp only)) | (k_end; kc_close) | (first | ((with_reducible show wpAny _ _ (call (Value.ref _) _ _) _ _ _); first | ((with_unfolding_all show wpAny _ _ (call (Value.ref 183) [Value.ref _, Value.ref _]) _ _ _); with_reducible refine Stop.go ?_) | ((with_unfolding_all show wpAny _ _ (call (Value.ref 243) [Value.ref _]) _ _ _); with_reducible refine Stop.go ?_) | ((with_unfolding_all show wpAny _ _ (call (Value.ref 106) [Value.ref _]) _ _ _); with_reducible refine Stop.go ?_) | ((with_unfolding_all show wpAny _ _ (call (Value.ref 238) [Value.ref _]) _ _ _); with_reducible refine Stop.go ?_)) | ((with_reducible show wpAny _ _ (exec (Stmt.Try _ _ _ _ _) _) _ _ _); with_reducible (with_reducible refine Stop.go ?_)) | ((with_reducible show wpAny _ _ (exec (Stmt.While _ _ _ _) _) _ _ _); with_reducible (with_reducible refine Stop.go ?_))) | walk1 | (dsimp only; walk1) | (leave1; (try dsimp only)))
    refine Stop.go (wpAny_Try_except ?_)
    repeat' (first | (k_unfold; (try dsimp only)) | (k_end; kc_close) | (first | ((with_reducible show wpAny _ _ (call (Value.ref _) _ _) _ _ _); first | ((with_unfolding_all show wpAny _ _ (call (Value.ref 183) [Value.ref _, Value.ref _]) _ _ _); with_reducible refine Stop.go ?_) | ((with_unfolding_all show wpAny _ _ (call (Value.ref 243) [Value.ref _]) _ _ _); with_reducible refine Stop.go ?_) | ((with_unfolding_all show wpAny _ _ (call (Value.ref 106) [Value.ref _]) _ _ _); with_reducible refine Stop.go ?_) | ((with_unfolding_all show wpAny _ _ (call (Value.ref 238) [Value.ref _]) _ _ _); with_reducible refine Stop.go ?_)) | ((with_reducible show wpAny _ _ (exec (Stmt.Try _ _ _ _ _) _) _ _ _); with_reducible (with_reducible refine Stop.go ?_)) | ((with_reducible show wpAny _ _ (exec (Stmt.While _ _ _ _) _) _ _ _); with_reducible (with_reducible refine Stop.go ?_))) | walk1 | (dsimp only; walk1) | (leave1; (try dsimp only)))
    rename_i D' c' hc F3 N3 l3
    have hDW : D' ∉ W := by rw [← hW9]; exact notin_lt (led := (en, oE) :: (tx, tbObj tdx) :: (tdx, tbDict w.params nm pa en u0 u1 u2 u3 u4) :: (lc, listOf (List.toArray vc) nc) :: (lb, listOf (List.toArray vb) nb) :: ex) l3
    have hgc := hgc_here (fr := fr) F3 N3 (.head _)
    have CH := fun (name : Str) (scope : Scope) (a : Addr) (cd : Value) (hk : scope.kind = .function) => ctx_here (name := name) (scope := scope) (a := a) (cd := cd) hb ff hWf F3 N3 (.head _) hDW hk
    refine Stop.go (wpAny_call (read_spec S2 hgc (CH _ _ _ _ ?hk) (N3.get mm2) (N3.get mm3) (N3.get mm1) hE lo hte ?_ ?_ ?_ (N3.get (.head _)) hic (by omega) hcs (by omega) (by dsimp only [Around.deeper]; omega) (by dsimp only [Around.deeper]; omega) ?_ ?_))
    case hk => exact rfl
    · exact hideAll_none _ (List.mem_append_left _ (by rw [← hW9]; exact List.mem_map_of_mem (f := fun x : Addr × Obj => x.1) mm1))
    · exact hideAll_none _ (List.mem_append_left _ (by rw [← hW9]; exact List.mem_map_of_mem (f := fun x : Addr × Obj => x.1) mm2))
    · exact hideAll_none _ (List.mem_append_left _ (by rw [← hW9]; exact List.mem_map_of_mem (f := fun x : Addr × Obj => x.1) (.head _)))
    · intro es' hes'; rw [hq] at hes'; cases hes'
    · intro _ e h4 tk4 Z
      have hcc : ∀ p ∈ (en, oE) :: (tx, tbObj tdx) :: (tdx, tbDict w.params nm pa en u0 u1 u2 u3 u4) :: (lc, listOf (List.toArray vc) nc) :: (lb, listOf (List.toArray vb) nb) :: ex, (hideAll hc (D' :: s.heap.objs.size :: frs fr)).get? p.1 = some p.2 := by
        intro p hp
        refine hideAll_get _ (N3.get (.tail _ hp)) fun q => ?_
        rcases List.mem_cons.mp q with q | q
        · exact hDW (by rw [← q, ← hW9]; exact List.mem_map_of_mem (f := fun x : Addr × Obj => x.1) hp)
        · rcases List.mem_cons.mp q with q | q
          · exact (N3 p (.tail _ hp)).2.1 q
          · exact (hl0 p hp).2.2 q
      have F4 := Fr.less F3 (hide_app (h := s.heap) (W := W) (fr := fr)) (Nat.le_of_eq (hideAll_size _ _))
      have N4 := News.sub (News.less N3 (hide_app (h := s.heap) (W := W) (fr := fr))) (fun p hp => .tail _ hp)
      clear l3 CH
      dsimp only at Z ⊢
      refine rz_catch rfl rfl Z fun h5 Z5 => ?_
      (try dsimp only)
      have hwn : ∀ x ∈ frs fr, x ∉ W := fun x hx hw => hWf x hw hx
      have F5 := fr_caught Z5 F4 hgc
      have N5 := news_caught Z5 N4 hcc
      clear Z X T
      have X := S2.X
      have T := S2.T
      refine handle78 (A' := (⟨some (.ref e), dp, some fr, gd, un⟩ : Around).deeper (envOf (Str.ofString "_law_is_alike") _ s.heap.objs.size 250 (.ref 249))) rfl ?_
      repeat' (first | (k_unfold; (try dsimp only)) | (k_end; kc_close) | (first | ((with_reducible show wpAny _ _ (call (Value.ref _) _ _) _ _ _); first | ((with_unfolding_all show wpAny _ _ (call (Value.ref 183) [Value.ref _, Value.ref _]) _ _ _); with_reducible refine Stop.go ?_) | ((with_unfolding_all show wpAny _ _ (call (Value.ref 243) [Value.ref _]) _ _ _); with_reducible refine Stop.go ?_) | ((with_unfolding_all show wpAny _ _ (call (Value.ref 106) [Value.ref _]) _ _ _); with_reducible refine Stop.go ?_) | ((with_unfolding_all show wpAny _ _ (call (Value.ref 238) [Value.ref _]) _ _ _); with_reducible refine Stop.go ?_)) | ((with_reducible show wpAny _ _ (exec (Stmt.Try _ _ _ _ _) _) _ _ _); with_reducible (with_reducible refine Stop.go ?_)) | ((with_reducible show wpAny _ _ (exec (Stmt.While _ _ _ _) _) _ _ _); with_reducible (with_reducible refine Stop.go ?_))) | walk1 | (dsimp only; walk1) | (leave1; (try dsimp only)))
      refine Stop.go ⟨rfl, X.keeps F5.keep, (by obtain ⟨⟨dE, t, oD, FA, hD⟩, _⟩ := Z5; obtain ⟨tb, he, _⟩ := FA.exc; exact ⟨_, he, rfl⟩), ?_⟩
      refine rz_flight Z5 fun h6 Z6 => ?_
      clear F5 N5
      have F6 := fr_caught Z6 F4 hgc
      have N6 := news_caught Z6 N4 hcc
      have hsl : ∀ x ∈ frs fr, ∀ o, s.heap.get? x = some o → ∃ sl, h6.get? x = some { o with slots := sl } := fun x hx o e => by
        obtain ⟨_, o', ho', nf⟩ := frs_mem ff hx
        rw [e] at ho'; cases ho'
        exact Z6.slots x o (by rw [frs_cons rfl]; exact .tail _ hx) (F3.keep x o (hideAll_get _ e (hwn x hx))) nf
      obtain ⟨exF, eF1, eF2⟩ := ledger_at (h := h6) (frs fr) fun x hx => by
        obtain ⟨_, o', ho', nf⟩ := frs_mem ff hx
        obtain ⟨sl, q⟩ := hsl x hx o' ho'
        exact ⟨_, q⟩
      obtain ⟨⟨dE, tE, oD, FA, hD⟩, _, _⟩ := Z6
      obtain ⟨tb, he, _⟩ := FA.exc
      have hdE := FA.dict
      have hen := FA.new
      have hoff := FA.off
      rw [frs_cons rfl] at hoff
      have hEL : e ≠ s.heap.objs.size := by
        rintro rfl
        obtain ⟨o, es, ep, eo, d, _⟩ := F6.ns
        rw [he] at eo; cases eo; cases d
      have hDL : dE ≠ s.heap.objs.size := fun q => hoff (by rw [q]; exact .head _)
      have heW : e ∉ W := fun q => by
        rw [← hW9] at q
        obtain ⟨p, hp, rfl⟩ := List.mem_map.mp q
        rw [hcc p hp] at hen; cases hen
      have NF : News (hideAll s.heap (W ++ frs fr)) s.heap.objs.size h6 ((((en, oE) :: (tx, tbObj tdx) :: (tdx, tbDict w.params nm pa en u0 u1 u2 u3 u4) :: (lc, listOf (List.toArray vc) nc) :: (lb, listOf (List.toArray vb) nb) :: (ex ++ exF)))) := by
        intro p hp
        by_cases hm : p ∈ exF
        · have hp1 : p.1 ∈ frs fr := eF1 ▸ List.mem_map_of_mem (f := fun x : Addr × Obj => x.1) hm
          obtain ⟨_, o', ho', _⟩ := frs_mem ff hp1
          exact ⟨eF2 p hm, Nat.ne_of_lt (Heap.lt_size ho'), hideAll_none _ (List.mem_append_right _ hp1)⟩
        · refine N6 p ?_
          simp only [List.mem_cons, List.mem_append] at hp ⊢
          rcases hp with q | q | q | q | q | q | q
          · exact .inl q
          · exact .inr (.inl q)
          · exact .inr (.inr (.inl q))
          · exact .inr (.inr (.inr (.inl q)))
          · exact .inr (.inr (.inr (.inr (.inl q))))
          · exact .inr (.inr (.inr (.inr (.inr q))))
          · exact absurd q hm
      clear FA N6 F3 N3 F4 N4 hcc hgc Z5
      refine wpAny_storeName_local rfl F6.ns (fun h7 hn7 hs7 => ?_) rfl
      have F7 := F6.set hn7 hs7
      have N7 := NF.set hs7
      have he7 := (hs7.2 e hEL).trans he
      have hd7 := (hs7.2 dE hDL).trans hdE
      clear he hdE F6 NF hs7 hn7
      have hexm : ∀ p ∈ ex, p ∈ ex ++ exF := fun p hp => List.mem_append_left _ hp
      have hexf : ∀ p ∈ exF, p ∈ ex ++ exF := fun p hp => List.mem_append_right _ hp
      generalize ex ++ exF = exx at *
      (try dsimp only)
      repeat' (first | (k_unfold; (try dsimp only)) | (k_end; kc_close) | (first | ((with_reducible show wpAny _ _ (call (Value.ref _) _ _) _ _ _); first | ((with_unfolding_all show wpAny _ _ (call (Value.ref 183) [Value.ref _, Value.ref _]) _ _ _); with_reducible refine Stop.go ?_) | ((with_unfolding_all show wpAny _ _ (call (Value.ref 243) [Value.ref _]) _ _ _); with_reducible refine Stop.go ?_) | ((with_unfolding_all show wpAny _ _ (call (Value.ref 106) [Value.ref _]) _ _ _); with_reducible refine Stop.go ?_) | ((with_unfolding_all show wpAny _ _ (call (Value.ref 238) [Value.ref _]) _ _ _); with_reducible refine Stop.go ?_)) | ((with_reducible show wpAny _ _ (exec (Stmt.Try _ _ _ _ _) _) _ _ _); with_reducible (with_reducible refine Stop.go ?_)) | ((with_reducible show wpAny _ _ (exec (Stmt.While _ _ _ _) _) _ _ _); with_reducible (with_reducible refine Stop.go ?_))) | walk1 | (dsimp only; walk1) | (leave1; (try dsimp only)))
      refine sym_of (X.keeps F7.keep) he7 hd7 hD fun u tk7 => ?_
      (try dsimp only)
      repeat' (first | (k_unfold; (try dsimp only)) | (k_end; kc_close) | (first | ((with_reducible show wpAny _ _ (call (Value.ref _) _ _) _ _ _); first | ((with_unfolding_all show wpAny _ _ (call (Value.ref 183) [Value.ref _, Value.ref _]) _ _ _); with_reducible refine Stop.go ?_) | ((with_unfolding_all show wpAny _ _ (call (Value.ref 243) [Value.ref _]) _ _ _); with_reducible refine Stop.go ?_) | ((with_unfolding_all show wpAny _ _ (call (Value.ref 106) [Value.ref _]) _ _ _); with_reducible refine Stop.go ?_) | ((with_unfolding_all show wpAny _ _ (call (Value.ref 238) [Value.ref _]) _ _ _); with_reducible refine Stop.go ?_)) | ((with_reducible show wpAny _ _ (exec (Stmt.Try _ _ _ _ _) _) _ _ _); with_reducible (with_reducible refine Stop.go ?_)) | ((with_reducible show wpAny _ _ (exec (Stmt.While _ _ _ _) _) _ _ _); with_reducible (with_reducible refine Stop.go ?_))) | walk1 | (dsimp only; walk1) | (leave1; (try dsimp only)))
      have hb7 : (hideAll h7 W).StaysIn h7 := fun x o q => of_hideAll _ q
      have S7 : Sx w mean mg mb (hideAll h7 W) := S.keeps (hide_stays (fun x o q => F7.keep x o (hide_stays hb hW2 x o q)) hWb)
      have H7 : HOk (some (.ref e)) (hideAll h7 W) := .inr ⟨e, _, _, rfl, hideAll_get _ he7 heW, rfl, rfl⟩
      have hW7 : ∀ p ∈ (en, oE) :: (tx, tbObj tdx) :: (tdx, tbDict w.params nm pa en u0 u1 u2 u3 u4) :: (lc, listOf (List.toArray vc) nc) :: (lb, listOf (List.toArray vb) nb) :: ex, (hideAll h7 W).get? p.1 = none := fun p hp => hideAll_none _ (hW9 ▸ List.mem_map_of_mem (f := fun x : Addr × Obj => x.1) hp)
      refine Stop.go (wpAny_call (table_spec S7 H7 hb7 (N7.get mm1) (N7.get mm2) (N7.get (.head _)) hE lo (hW7 _ mm1) (hW7 _ mm2) (hW7 _ (.head _)) hab
        (fun p hp => ⟨N7.get (tt5 (hexm p hp)), hW7 p (tt5 hp)⟩) hok h64 (by dsimp only [Around.deeper]; omega) (by dsimp only [Around.deeper]; omega) (newInts_call F7 N7 ?_)))
      intro D8 v8 n8 h8 tk8 hne8 F8 N8 hi8 hl8
      (try dsimp only)
      repeat' (first | (k_unfold; (try dsimp only)) | (k_end; kc_close) | (first | ((with_reducible show wpAny _ _ (call (Value.ref _) _ _) _ _ _); first | ((with_unfolding_all show wpAny _ _ (call (Value.ref 183) [Value.ref _, Value.ref _]) _ _ _); with_reducible refine Stop.go ?_) | ((with_unfolding_all show wpAny _ _ (call (Value.ref 243) [Value.ref _]) _ _ _); with_reducible refine Stop.go ?_) | ((with_unfolding_all show wpAny _ _ (call (Value.ref 106) [Value.ref _]) _ _ _); with_reducible refine Stop.go ?_) | ((with_unfolding_all show wpAny _ _ (call (Value.ref 238) [Value.ref _]) _ _ _); with_reducible refine Stop.go ?_)) | ((with_reducible show wpAny _ _ (exec (Stmt.Try _ _ _ _ _) _) _ _ _); with_reducible (with_reducible refine Stop.go ?_)) | ((with_reducible show wpAny _ _ (exec (Stmt.While _ _ _ _) _) _ _ _); with_reducible (with_reducible refine Stop.go ?_))) | walk1 | (dsimp only; walk1) | (leave1; (try dsimp only)))
      refine wpAny_nameGoes rfl F8.ns rfl fun h9 m9 hn9 hs9 => ?_
      have hg2L : (hideAll s.heap (W ++ frs fr)).get? s.heap.objs.size = none := Heap.get?_none_of_le F8.above
      have F9 : Fr (hideAll s.heap (W ++ frs fr)) s.heap.objs.size h9 m9 := ⟨hn9, fun x o q => hs9.extBut x o (fun z => by rw [z] at q; exact absurd (q.symm.trans hg2L) (by simp)) (F8.keep x o q), F8.above⟩
      have N9 := N8.set hs9
      have e9 : decide (textF es = bs) = true := by rw [c1 hq]; simp
      rw [e9]
      have led9 : ∀ p ∈ (en, oE) :: (tx, tbObj tdx) :: (tdx, tbDict w.params nm pa en u0 u1 u2 u3 u4) :: (lc, listOf (List.toArray vc) nc) :: (lb, listOf (List.toArray vb) nb) :: ex, h9.get? p.1 = some p.2 := by
        intro p hp
        refine (N9 p (List.mem_cons_of_mem _ ?_)).1
        simp only [List.mem_cons] at hp ⊢
        rcases hp with q | q | q | q | q | q
        · exact .inl q
        · exact .inr (.inl q)
        · exact .inr (.inr (.inl q))
        · exact .inr (.inr (.inr (.inl q)))
        · exact .inr (.inr (.inr (.inr (.inl q))))
        · exact .inr (.inr (.inr (.inr (.inr (hexm p q)))))
      refine ret _ _ (kps_end hW9 (fun p hp => (hl0 p hp).1) (fun p hp _ => led9 p hp) (fun x hx o q => ?_) F9)
      obtain ⟨sl, q6⟩ := hsl x hx o q
      rw [← eF1] at hx
      obtain ⟨p, hp, rfl⟩ := List.mem_map.mp hx
      have q7 := eF2 p hp
      rw [q6] at q7
      exact ⟨sl, (N9.get (tt6 (hexf p hp))).trans q7.symm⟩
  · intro es2 hq D vd nd exd h2 tk2 F2 N2 hne hR
    clear F N
    have N2' : News (hideAll s.heap W) s.heap.objs.size h2 ((D, listOf (List.toArray vd) nd) :: (en, oE) :: (tx, tbObj tdx) :: (tdx, tbDict w.params nm pa en u0 u1 u2 u3 u4) :: (lc, listOf (List.toArray vc) nc) :: (lb, listOf (List.toArray vb) nb) :: (exd ++ ex)) := News.sub N2 fun p hp => by
      simp only [List.mem_cons, List.mem_append] at hp ⊢
      rcases hp with q | q | q | q | q | q | q | q
      · exact .inl (.inl q)
      · exact .inr (.inl q)
      · exact .inr (.inr (.inl q))
      · exact .inr (.inr (.inr (.inl q)))
      · exact .inr (.inr (.inr (.inr (.inl q))))
      · exact .inr (.inr (.inr (.inr (.inr (.inl q)))))
      · exact .inl (.inr q)
      · exact .inr (.inr (.inr (.inr (.inr (.inr q)))))
    have hxd : ∀ p ∈ exd, p ∈ exd ++ ex := fun p hp => List.mem_append_left _ hp
    have hxx : ∀ p ∈ ex, p ∈ exd ++ ex := fun p hp => List.mem_append_right _ hp
    have hxn : ∀ p ∈ exd ++ ex, p.1 ≠ en := fun p hp => by
      rcases List.mem_append.mp hp with hp | hp
      · exact fun q => (hne p (.tail _ hp)).1 q.symm
      · exact hxe p hp
    have hDen : @Ne Nat D en := fun q => (hne _ (.head _)).1 q.symm
    clear N2 hne
    generalize exd ++ ex = exx at *
    have hkv : kvs = [] := c2 (by rw [hq]; simp)
    subst hkv
    have hok2 := ents_ok hq (by omega) hcs
    have h64b := ents_few hq (by omega)
    have hvd := hR.length
    (try dsimp only)
    repeat' (first | (k_unfold; (try dsimp only)) | (k_end; kc_close) | (first | ((with_reducible show wpAny _ _ (call (Value.ref _) _ _) _ _ _); first | ((with_unfolding_all show wpAny _ _ (call (Value.ref 183) [Value.ref _, Value.ref _]) _ _ _); with_reducible refine Stop.go ?_) | ((with_unfolding_all show wpAny _ _ (call (Value.ref 243) [Value.ref _]) _ _ _); with_reducible refine Stop.go ?_) | ((with_unfolding_all show wpAny _ _ (call (Value.ref 106) [Value.ref _]) _ _ _); with_reducible refine Stop.go ?_) | ((with_unfolding_all show wpAny _ _ (call (Value.ref 238) [Value.ref _]) _ _ _); with_reducible refine Stop.go ?_)) | ((with_reducible show wpAny _ _ (exec (Stmt.Try _ _ _ _ _) _) _ _ _); with_reducible (with_reducible refine Stop.go ?_)) | ((with_reducible show wpAny _ _ (exec (Stmt.While _ _ _ _) _) _ _ _); with_reducible (with_reducible refine Stop.go ?_))) | walk1 | (dsimp only; walk1) | (leave1; (try dsimp only)))
    refine Stop.go (wpAny_Try_except ?_)
    repeat' (first | (k_unfold; (try dsimp only)) | (k_end; kc_close) | (first | ((with_reducible show wpAny _ _ (call (Value.ref _) _ _) _ _ _); first | ((with_unfolding_all show wpAny _ _ (call (Value.ref 183) [Value.ref _, Value.ref _]) _ _ _); with_reducible refine Stop.go ?_) | ((with_unfolding_all show wpAny _ _ (call (Value.ref 243) [Value.ref _]) _ _ _); with_reducible refine Stop.go ?_) | ((with_unfolding_all show wpAny _ _ (call (Value.ref 106) [Value.ref _]) _ _ _); with_reducible refine Stop.go ?_) | ((with_unfolding_all show wpAny _ _ (call (Value.ref 238) [Value.ref _]) _ _ _); with_reducible refine Stop.go ?_)) | ((with_reducible show wpAny _ _ (exec (Stmt.Try _ _ _ _ _) _) _ _ _); with_reducible (with_reducible refine Stop.go ?_)) | ((with_reducible show wpAny _ _ (exec (Stmt.While _ _ _ _) _) _ _ _); with_reducible (with_reducible refine Stop.go ?_))) | walk1 | (dsimp only; walk1) | (leave1; (try dsimp only)))
    rename_i D' c' hc F3 N3 l3
    have hDW : D' ∉ W := by
      rw [← hW9]; intro q
      obtain ⟨p, hp, e⟩ := List.mem_map.mp q
      have h1 : p.1 < D' := by
        refine allLt_mem (l := (D, listOf (List.toArray vd) nd) :: (en, oE) :: (tx, tbObj tdx) :: (tdx, tbDict w.params nm pa en u0 u1 u2 u3 u4) :: (lc, listOf (List.toArray vc) nc) :: (lb, listOf (List.toArray vb) nb) :: exx) l3 p ?_
        simp only [List.mem_cons] at hp ⊢
        rcases hp with q | q | q | q | q | q
        · exact .inr (.inl q)
        · exact .inr (.inr (.inl q))
        · exact .inr (.inr (.inr (.inl q)))
        · exact .inr (.inr (.inr (.inr (.inl q))))
        · exact .inr (.inr (.inr (.inr (.inr (.inl q)))))
        · exact .inr (.inr (.inr (.inr (.inr (.inr (hxx p q))))))
      rw [e] at h1
      exact absurd h1 (Nat.lt_irrefl _)
    have hgc := hgc_here (fr := fr) F3 N3 (.head _)
    have CH := fun (name : Str) (scope : Scope) (a : Addr) (cd : Value) (hk : scope.kind = .function) => ctx_here (name := name) (scope := scope) (a := a) (cd := cd) hb ff hWf F3 N3 (.head _) hDW hk
    refine Stop.go (wpAny_call (read_spec S2 hgc (CH _ _ _ _ ?hk) (N3.get mm3) (N3.get mm4) (N3.get mm2) hE lo hte ?_ ?_ ?_ (N3.get (.head _)) hic (by omega) hcs (by simp) (by dsimp only [Around.deeper]; omega) (by dsimp only [Around.deeper]; omega) ?_ ?_))
    case hk => exact rfl
    · exact hideAll_none _ (List.mem_append_left _ (by rw [← hW9]; exact List.mem_map_of_mem (f := fun x : Addr × Obj => x.1) mm1))
    · exact hideAll_none _ (List.mem_append_left _ (by rw [← hW9]; exact List.mem_map_of_mem (f := fun x : Addr × Obj => x.1) mm2))
    · exact hideAll_none _ (List.mem_append_left _ (by rw [← hW9]; exact List.mem_map_of_mem (f := fun x : Addr × Obj => x.1) (.head _)))
    · intro es' hes' h4 tk4 t4 oE4 vs4 ex4 K4 hen4 hE4 hab4 hex4
      rw [hq] at hes'
      injection hes' with hes'
      subst hes'
      clear CH hgc
      have KR := KRel.start (fun e he c hc => ((hok2 e he).2.2.1 c hc).1) hab4
      have hgen : (hideAll s.heap W).get? en = none := (N3 _ mm2).2.2
      have hLen : s.heap.objs.size ≠ en := fun q => (N3 _ mm2).2.1 q.symm
      have F5 := Fr.kp F3 K4 (by simpa using hLen) (by simpa using hgen)
      have nobj : ∀ x o, (x, o) ∈ (D', listOf (List.toArray vc) c') :: (D, listOf (List.toArray vd) nd) :: (en, oE) :: (tx, tbObj tdx) :: (tdx, tbDict w.params nm pa en u0 u1 u2 u3 u4) :: (lc, listOf (List.toArray vc) nc) :: (lb, listOf (List.toArray vb) nb) :: exx → (∀ es ep, o.data ≠ .dict es ep) → @Ne Nat x en := by
        rintro x o hx hd9 rfl
        have h1 := N3.get hx
        have h2 := N3.get mm2
        (try dsimp only at h1 h2)
        rw [h1] at h2
        obtain ⟨es9, ep9, _, hdd, _⟩ := hE
        injection h2 with h2
        exact hd9 es9 ep9 (by rw [h2]; exact hdd)
      have up : ∀ p, p ∈ (D', listOf (List.toArray vc) c') :: (D, listOf (List.toArray vd) nd) :: (en, oE) :: (tx, tbObj tdx) :: (tdx, tbDict w.params nm pa en u0 u1 u2 u3 u4) :: (lc, listOf (List.toArray vc) nc) :: (lb, listOf (List.toArray vb) nb) :: exx → p.1 ≠ en → h4.get? p.1 = some p.2 ∧ p.1 ≠ s.heap.objs.size ∧ (hideAll s.heap W).get? p.1 = none := fun p hp hne => ⟨K4.2 _ _ (by simpa using hne) (N3.get hp), (N3 p hp).2⟩
      have N5 : News (hideAll s.heap W) s.heap.objs.size h4 ((D, listOf (List.toArray vd) nd) :: (en, oE4) :: (tx, tbObj tdx) :: (tdx, tbDict w.params nm pa en u0 u1 u2 u3 u4) :: (lc, listOf (List.toArray vc) nc) :: (lb, listOf (List.toArray vb) nb) :: (exx ++ ex4)) := by
        intro p hp
        simp only [List.mem_cons, List.mem_append] at hp
        rcases hp with rfl | rfl | rfl | rfl | rfl | rfl | hp | hp
        · exact up _ mm1 hDen
        · exact ⟨hen4, fun q => hLen q.symm, hgen⟩
        · exact up _ mm3 (nobj _ _ mm3 nofun)
        · exact up _ mm4 hte
        · exact up _ mm5 (nobj _ _ mm5 nofun)
        · exact up _ mm6 (nobj _ _ mm6 nofun)
        · exact up _ (tt7 hp) (hxn p hp)
        · have h2 := hex4 p hp
          refine ⟨h2.1, fun q => ?_, ?_⟩
          · obtain ⟨oL, _, _, eL, _⟩ := F3.ns
            have h3 := h2.2
            (try dsimp only at h3)
            rw [q] at h3; rw [eL] at h3; cases h3
          · cases q : (hideAll s.heap W).get? p.1 with
            | none => rfl
            | some o => have h3 := F3.keep _ _ q; have h4 := h2.2; (try dsimp only at h4); rw [h4] at h3; cases h3
      have hy1 : ∀ p ∈ exd, p ∈ exx ++ ex4 := fun p hp => List.mem_append_left _ (hxd p hp)
      have hy2 : ∀ p ∈ ex, p ∈ exx ++ ex4 := fun p hp => List.mem_append_left _ (hxx p hp)
      have hy3 : ∀ p ∈ ex4, p ∈ exx ++ ex4 := fun p hp => List.mem_append_right _ hp
      clear hxd hxx up nobj F3 N3 hex4 K4 l3 hxn
      generalize exx ++ ex4 = exx at *
      have hsl := storeAll_len es2 [] vs4
      simp only [List.length_nil, Nat.zero_add] at hsl
      (try dsimp only)
      repeat' (first | (k_unfold; (try dsimp only)) | (k_end; kc_close) | (first | ((with_reducible show wpAny _ _ (call (Value.ref _) _ _) _ _ _); first | ((with_unfolding_all show wpAny _ _ (call (Value.ref 183) [Value.ref _, Value.ref _]) _ _ _); with_reducible refine Stop.go ?_) | ((with_unfolding_all show wpAny _ _ (call (Value.ref 243) [Value.ref _]) _ _ _); with_reducible refine Stop.go ?_) | ((with_unfolding_all show wpAny _ _ (call (Value.ref 106) [Value.ref _]) _ _ _); with_reducible refine Stop.go ?_) | ((with_unfolding_all show wpAny _ _ (call (Value.ref 238) [Value.ref _]) _ _ _); with_reducible refine Stop.go ?_)) | ((with_reducible show wpAny _ _ (exec (Stmt.Try _ _ _ _ _) _) _ _ _); with_reducible (with_reducible refine Stop.go ?_)) | ((with_reducible show wpAny _ _ (exec (Stmt.While _ _ _ _) _) _ _ _); with_reducible (with_reducible refine Stop.go ?_))) | walk1 | (dsimp only; walk1) | (leave1; (try dsimp only)))
      rename Fr _ _ _ _ => F6
      rename News _ _ _ _ => N6
      refine kun_lenL (k := (es2.length : Int)) (N6.isList (.head _)) (by simp [hvd]) (by omega) ?_
      (try dsimp only)
      repeat' (first | (k_unfold; (try dsimp only)) | (k_end; kc_close) | (first | ((with_reducible show wpAny _ _ (call (Value.ref _) _ _) _ _ _); first | ((with_unfolding_all show wpAny _ _ (call (Value.ref 183) [Value.ref _, Value.ref _]) _ _ _); with_reducible refine Stop.go ?_) | ((with_unfolding_all show wpAny _ _ (call (Value.ref 243) [Value.ref _]) _ _ _); with_reducible refine Stop.go ?_) | ((with_unfolding_all show wpAny _ _ (call (Value.ref 106) [Value.ref _]) _ _ _); with_reducible refine Stop.go ?_) | ((with_unfolding_all show wpAny _ _ (call (Value.ref 238) [Value.ref _]) _ _ _); with_reducible refine Stop.go ?_)) | ((with_reducible show wpAny _ _ (exec (Stmt.Try _ _ _ _ _) _) _ _ _); with_reducible (with_reducible refine Stop.go ?_)) | ((with_reducible show wpAny _ _ (exec (Stmt.While _ _ _ _) _) _ _ _); with_reducible (with_reducible refine Stop.go ?_))) | walk1 | (dsimp only; walk1) | (leave1; (try dsimp only)))
      rotate_left
      · rename ((es2.length : Int) ≠ (es2.length : Int)) => hbad
        exact absurd rfl hbad
      have gW : ∀ p ∈ (en, oE) :: (tx, tbObj tdx) :: (tdx, tbDict w.params nm pa en u0 u1 u2 u3 u4) :: (lc, listOf (List.toArray vc) nc) :: (lb, listOf (List.toArray vb) nb) :: ex, (hideAll s.heap W).get? p.1 = none := fun p hp => hideAll_none _ (hW9 ▸ List.mem_map_of_mem (f := fun x : Addr × Obj => x.1) hp)
      refine Stop.go (wpAny_call (table_spec (hd := none) S' (.inl rfl) F6.keep (N6.get mm2) (N6.get mm3) (N6.get mm1) hE4 lo (gW _ mm1) (gW _ mm2) hgen KR.abs
        (fun p hp => ⟨N6.get (tt6 (hy3 p hp)), (N6 p (tt6 (hy3 p hp))).2.2⟩) (fun e he => hok2 e (lastE_mem es2 e he)) (by omega) (by dsimp only [Around.deeper]; omega) (by dsimp only [Around.deeper]; omega) (newInts_call F6 N6 ?_)))
      intro D7 v7 n7 h7 tk7 hne7 F7 N7 hi7 hl7
      (try dsimp only)
      repeat' (first | (k_unfold; (try dsimp only)) | (k_end; kc_close) | (first | ((with_reducible show wpAny _ _ (call (Value.ref _) _ _) _ _ _); first | ((with_unfolding_all show wpAny _ _ (call (Value.ref 183) [Value.ref _, Value.ref _]) _ _ _); with_reducible refine Stop.go ?_) | ((with_unfolding_all show wpAny _ _ (call (Value.ref 243) [Value.ref _]) _ _ _); with_reducible refine Stop.go ?_) | ((with_unfolding_all show wpAny _ _ (call (Value.ref 106) [Value.ref _]) _ _ _); with_reducible refine Stop.go ?_) | ((with_unfolding_all show wpAny _ _ (call (Value.ref 238) [Value.ref _]) _ _ _); with_reducible refine Stop.go ?_)) | ((with_reducible show wpAny _ _ (exec (Stmt.Try _ _ _ _ _) _) _ _ _); with_reducible (with_reducible refine Stop.go ?_)) | ((with_reducible show wpAny _ _ (exec (Stmt.While _ _ _ _) _) _ _ _); with_reducible (with_reducible refine Stop.go ?_))) | walk1 | (dsimp only; walk1) | (leave1; (try dsimp only)))
      refine Stop.go (wpAny_call (stext_spec S' F7.keep (N7.get mm1) (N7 _ mm1).2.2 hR (fun p hp => ⟨N7.get (tt7 (hy1 p hp)), (N7 p (tt7 (hy1 p hp))).2.2⟩) hok2 h64b (by dsimp only [Around.deeper]; omega) (by dsimp only [Around.deeper]; omega) (newInts_call F7 N7 ?_)))
      intro D8 v8 n8 h8 tk8 hne8 F8 N8 hi8 hl8
      (try dsimp only)
      repeat' (first | (k_unfold; (try dsimp only)) | (k_end; kc_close) | (first | ((with_reducible show wpAny _ _ (call (Value.ref _) _ _) _ _ _); first | ((with_unfolding_all show wpAny _ _ (call (Value.ref 183) [Value.ref _, Value.ref _]) _ _ _); with_reducible refine Stop.go ?_) | ((with_unfolding_all show wpAny _ _ (call (Value.ref 243) [Value.ref _]) _ _ _); with_reducible refine Stop.go ?_) | ((with_unfolding_all show wpAny _ _ (call (Value.ref 106) [Value.ref _]) _ _ _); with_reducible refine Stop.go ?_) | ((with_unfolding_all show wpAny _ _ (call (Value.ref 238) [Value.ref _]) _ _ _); with_reducible refine Stop.go ?_)) | ((with_reducible show wpAny _ _ (exec (Stmt.Try _ _ _ _ _) _) _ _ _); with_reducible (with_reducible refine Stop.go ?_)) | ((with_reducible show wpAny _ _ (exec (Stmt.While _ _ _ _) _) _ _ _); with_reducible (with_reducible refine Stop.go ?_))) | walk1 | (dsimp only; walk1) | (leave1; (try dsimp only)))
      refine ret _ _ (Kps.of_kp (kp_end hW9 (fun p hp => (hl0 p hp).1) (fun p hp hne => ?_) F8))
      refine (N8 p (List.mem_cons_of_mem _ (List.mem_cons_of_mem _ (List.mem_cons_of_mem _ ?_)))).1
      simp only [List.mem_cons] at hp ⊢
      rcases hp with q | q | q | q | q | q
      · exact absurd (by rw [q]) hne
      · exact .inr (.inl q)
      · exact .inr (.inr (.inl q))
      · exact .inr (.inr (.inr (.inl q)))
      · exact .inr (.inr (.inr (.inr (.inl q))))
      · exact .inr (.inr (.inr (.inr (.inr (hy2 p q)))))
    · intro hbad; rw [hq] at hbad; cases hbad
end

section
section
variable {w : World} {mean : ExcName → Option Value} {mg mb : Str → Option Value} {g : Heap} {s : Shared} {A : Around} {dp un tk : Nat} {fr : Option (List Env)} {gd : Option (List Code)} {m : Str → Option Value} {L l : Addr} {vs : List Value} {ns cs bs : List Int} {n : Nat}
  {news : List (Addr × Obj)} {G : Obj → List (Addr × Obj)} {E : Value → Shared → Prop} {Q : Value → Shared → Prop}
theorem deckof_call (S : Sx w mean mg mb g) (F : Fr g L s.heap m) (N : News g L s.heap news) (hl : s.heap.IsList l vs.toArray) (hi : IntsAre vs ns) (hlen : ns.length ≤ 63) (hA : A = ⟨none, dp, fr, gd, un⟩) (hroom : dp + 20 < recursionLimit) (hu : un ≤ 8900)
    (k : ∀ D vs' ns' n' h' tk, AllNe D news → Fr g L h' m → News g L h' ((D, listOf (List.toArray vs') n') :: news) → IntsAre vs' ns' → DeckOk ns' → Q (.ref D) { s with heap := h', toks := tk }) :
    wpAny (model PySem.Challenge.rw_on0064_01.row.prog w) A (call (.ref 195) [.ref l]) Q E s := by
  subst hA
  refine wpAny_call (deckof_spec S F.keep hl hi hlen hroom hu fun D vs' ns' n' h' tk K hn he hi' hD => ?_)
  refine k D vs' ns' n' h' tk (allNe_of fun p hp q => ?_) (Fr.kp0 F K) (News.add F K (News.kp0 N K) hn he) hi' hD
  have z := (N p hp).1
  rw [q, hn] at z; cases z
theorem some_call {x : Str} {tx tm : Tok} {most : Int} (S : Sx w mean mg mb g) (F : Fr g L s.heap m) (N : News g L s.heap news) (U : UpdF l (listOf (List.toArray vs) n) news G) (hi : IntsAre vs ns) (hD : DeckOk ns) (hx0 : 0 < x.cps.size) (hx1 : x.cps.size < 1000) (hm0 : 0 ≤ most) (hm1 : most < 100) (hA : A = ⟨none, dp, fr, gd, un⟩) (hroom : dp + 60 < recursionLimit) (hu : un ≤ 8880)
    (k : ∀ D zv zs nz h' tk vs' ns' n', IntsAre vs' ns' → DeckOk ns' → IntsAre zv zs → (zs.length : Int) ≤ most → (∀ c ∈ zs, c ∈ codesOf x) → AllNe D news → Fr g L h' m → News g L h' ((D, listOf (List.toArray zv) nz) :: G (listOf (List.toArray vs') n')) → Q (.ref D) { s with heap := h', toks := tk }) :
    wpAny (model PySem.Challenge.rw_on0064_01.row.prog w) A (call (.ref 207) [.ref l, .str x tx, .int most tm]) Q E s := by
  subst hA
  have hl : (l, listOf (List.toArray vs) n) ∈ news := by
    obtain ⟨pre, post, rfl, _⟩ := U.split
    exact List.mem_append_right _ (.head _)
  refine wpAny_call (some_spec S F.keep (N.fresh hl) (N.get hl) hi hD hx0 hx1 hm0 hm1 hroom hu fun D zv zs nz h' tk vs' ns' n' K hl' hi' hD' hn he hz hzl hzc => ?_)
  have F' := Fr.kp F K (by simpa using (N _ hl).2.1.symm) (by simpa using (N _ hl).2.2)
  refine k D zv zs nz h' tk vs' ns' n' hi' hD' hz hzl hzc (allNe_of fun p hp q => ?_) F' (fun p hp => ?_)
  · have z := (N p hp).1
    rw [q, hn] at z; cases z
  · rcases List.mem_cons.mp hp with rfl | hp
    · refine ⟨he, fun q => ?_, ?_⟩
      · obtain ⟨oL, _, _, eL, _⟩ := F.ns
        (try dsimp only at q)
        rw [q, eL] at hn; cases hn
      · cases q : g.get? D with
        | none => rfl
        | some o => have := F.keep _ _ q; rw [hn] at this; cases this
    · exact News.updF N U K hl' p hp
theorem alike_call {name : Str} {scope : Scope} {a : Addr} {cd : Value} {tx tdx en pa lc lb : Addr} {nm : Str} {u0 u1 u2 u3 u4 : Tok} {oE : Obj} {kvs : List (Str × Value)} {ex : List (Addr × Obj)} {es : List Ent} {vc vb : List Value} {nc nb : Nat}
    (S : Sx w mean mg mb g) (F : Fr g L s.heap m) (N : News g L s.heap news)
    (hen : (en, oE) ∈ news) (htx : (tx, tbObj tdx) ∈ news) (htd : (tdx, tbDict w.params nm pa en u0 u1 u2 u3 u4) ∈ news) (hlc : (lc, listOf (List.toArray vc) nc) ∈ news) (hlb : (lb, listOf (List.toArray vb) nb) ∈ news) (hex : ∀ p ∈ ex, p ∈ news ∧ p.1 ≠ en)
    (hE : oE.IsDictOf (PySem.strKind PySem.Challenge.rw_on0064_01.row.prog w) kvs) (lo : (en == sysModules) = false) (hte : @Ne Nat tdx en)
    (hab : AbsIn w.params ex (kvs.map (·.2)) es) (hok : ∀ e ∈ es, EntOk e) (h64 : kvs.length < 64)
    (hic : IntsAre vc cs) (hib : IntsAre vb bs) (hlen : cs.length < 128) (hcs : ∀ c ∈ cs, 0 ≤ c ∧ c < 1000000)
    (c1 : entsOf cs = none → bs = textF es) (c2 : entsOf cs ≠ none → kvs = [])
    (hA : A = (⟨none, dp, some [], gd, un⟩ : Around).deeper (envOf name scope L a cd)) (hk : scope.kind = .function) (hroom : dp + 301 < recursionLimit) (hu : un ≤ 8790)
    (k : ∀ h' tk, Fr g L h' m → (∀ nw, (∀ p ∈ nw, p ∈ news ∧ p.1 ≠ en) → News g L h' nw) → Q (.bool true) { s with heap := h', toks := tk }) :
    wpAny (model PySem.Challenge.rw_on0064_01.row.prog w) A (call (.ref 250) [.ref tx, .ref lc, .ref lb]) Q E s := by
  subst hA
  have ff : s.heap.FunFrames g [envOf name scope L a cd] := funFrames_top (.inr (Heap.get?_none_of_le F.above)) F trivial hk
  have hfr : frs [envOf name scope L a cd] = [L] := frs_cons rfl
  refine wpAny_call (alike_spec (ex := ex) (nb := nb) (nc := nc) (nm := nm) (pa := pa) (u0 := u0) (u1 := u1) (u2 := u2) (u3 := u3) (u4 := u4) S F.keep ff (fun p hp => ?_) hE lo hte (fun p hp => (hex p hp).2) hab hok h64 hic hib hlen hcs c1 c2 (by omega) (by first | omega | (simp only [Around.deeper]; omega)) fun h' tk K => ?_)
  · have hm : p ∈ news := by
      simp only [List.mem_cons] at hp
      rcases hp with rfl | rfl | rfl | rfl | rfl | hp
      · exact hen
      · exact htx
      · exact htd
      · exact hlc
      · exact hlb
      · exact (hex p hp).1
    exact ⟨(N p hm).1, (N p hm).2.2, by rw [hfr]; simpa using (N p hm).2.1⟩
  · have hLen : L ≠ en := fun q => (N _ hen).2.1 q.symm
    have hgL : g.get? L = none := Heap.get?_none_of_le F.above
    have K2 : ∀ a o, a ≠ en → s.heap.get? a = some o → (∃ sl, h'.get? a = some { o with slots := sl }) ∧ (a ≠ L → h'.get? a = some o) := fun a o n e => by
      have q := K.2 a o (by simpa using n) e
      exact ⟨q.1, fun z => q.2 (by rw [show frs [envOf name scope L _ _] = [L] from frs_cons rfl]; simpa using z)⟩
    refine k h' tk ⟨?_, fun b o e => ?_, F.above⟩ fun nw hnw p hp => ?_
    · obtain ⟨o, e1, nf, kk⟩ := ns_slots F.ns
      obtain ⟨sl, e2⟩ := (K2 L o hLen e1).1
      exact kk h' sl e2
    · exact (K2 b o (fun q => by rw [q, (N _ hen).2.2] at e; cases e) (F.keep b o e)).2 fun q => by rw [q, hgL] at e; cases e
    · obtain ⟨hm, hne⟩ := hnw p hp
      exact ⟨(K2 _ _ hne (N p hm).1).2 (N p hm).2.1, (N p hm).2⟩
theorem read_call {name : Str} {scope : Scope} {a : Addr} {cd : Value} {tx tdx en pa : Addr} {nm : Str} {u0 u1 u2 u3 u4 : Tok} {oE : Obj} {kvs : List (Str × Value)} {es : List Ent}
    (S : Sx w mean mg mb g) (F : Fr g L s.heap m) (N : News g L s.heap news)
    (hen : (en, oE) ∈ news) (htx : (tx, tbObj tdx) ∈ news) (htd : (tdx, tbDict w.params nm pa en u0 u1 u2 u3 u4) ∈ news) (hl : (l, listOf (List.toArray vs) n) ∈ news)
    (hE : oE.IsDictOf (PySem.strKind PySem.Challenge.rw_on0064_01.row.prog w) kvs) (lo : (en == sysModules) = false) (hte : @Ne Nat tdx en)
    (hi : IntsAre vs cs) (hlen : cs.length < 500) (hcs : ∀ c ∈ cs, 0 ≤ c ∧ c < 1000000) (hkv : kvs.length ≤ 1000) (hq : entsOf cs = some es)
    (hA : A = (⟨none, dp, some [], gd, un⟩ : Around).deeper (envOf name scope L a cd)) (hk : scope.kind = .function) (hroom : dp + 201 < recursionLimit) (hu : un ≤ 8790)
    (k : ∀ h' tk t oE' vs' ex, Fr g L h' m → oE'.IsDictOf (PySem.strKind PySem.Challenge.rw_on0064_01.row.prog w) (storeAll kvs es vs') → AbsIn w.params ex vs' es → (∀ p ∈ ex, p.1 ≠ en ∧ AllNe p.1 news) → (∀ nw, (∀ p ∈ nw, p ∈ news ∧ p.1 ≠ en) → News g L h' ((en, oE') :: (nw ++ ex))) → Q (.int es.length t) { s with heap := h', toks := tk }) :
    wpAny (model PySem.Challenge.rw_on0064_01.row.prog w) A (call (.ref 183) [.ref tx, .ref l]) Q E s := by
  subst hA
  have ff : s.heap.FunFrames g [envOf name scope L a cd] := funFrames_top (.inr (Heap.get?_none_of_le F.above)) F trivial hk
  have hfr : frs [envOf name scope L a cd] = [L] := frs_cons rfl
  have hgL : g.get? L = none := Heap.get?_none_of_le F.above
  have hLen : L ≠ en := fun q => (N _ hen).2.1 q.symm
  have C : Ctx (hideAll s.heap [l, L]) s.heap [l] [envOf name scope L a cd] := by
    refine ⟨fun x o e => of_hideAll _ e, fun x hx => hideAll_none _ (by rw [List.mem_singleton.mp hx]; exact .head _), funFrames_hide (as := [l, L]) ff fun env he x hx => ?_, fun x hx => ?_⟩
    · have q : x ∈ frs [envOf name scope L a cd] := List.mem_filterMap.mpr ⟨env, he, hx⟩
      rw [hfr] at q; exact .tail _ q
    · rw [List.mem_singleton.mp hx, hfr]; simpa using (N _ hl).2.1
  have hgc : g.StaysIn (hideAll s.heap [l, L]) := fun x o e => hideAll_get _ (F.keep x o e) fun q => by
    rcases List.mem_cons.mp q with rfl | q
    · rw [(N _ hl).2.2] at e; cases e
    · rw [List.mem_singleton.mp q, hgL] at e; cases e
  refine wpAny_call (read_spec S hgc C (N.get htx) (N.get htd) (N.get hen) hE lo hte (N _ htx).2.2 (N _ htd).2.2 (N _ hen).2.2 (N.get hl) hi hlen hcs hkv (by show dp + 1 + 200 < _; omega) (by show un + 3 ≤ _; omega) (fun es' hes' h' tk t oE' vs' ex K he hE' hab hex => ?_) (fun hbad => by rw [hq] at hbad; cases hbad))
  rw [hq] at hes'
  injection hes' with hes'
  subst hes'
  have up : ∀ p ∈ news, p.1 ≠ en → h'.get? p.1 = some p.2 ∧ p.1 ≠ L ∧ g.get? p.1 = none := fun p hp hne => ⟨K.2 _ _ (by simpa using hne) (N p hp).1, (N p hp).2⟩
  have gx : ∀ p ∈ ex, ∀ q ∈ news, q.1 ≠ p.1 := fun p hp q hq e => by
    have h2 := (hex p hp).2
    rw [← e, (N q hq).1] at h2; cases h2
  refine k h' tk t oE' vs' ex (Fr.kp F K (by simpa using hLen) (by simpa using (N _ hen).2.2)) hE' hab (fun p hp => ⟨fun e => gx p hp _ hen e.symm, allNe_of fun q hq => gx p hp q hq⟩) fun nw hnw p hp => ?_
  rcases List.mem_cons.mp hp with rfl | hp
  · exact ⟨he, (N _ hen).2⟩
  · rcases List.mem_append.mp hp with hp | hp
    · exact up p (hnw p hp).1 (hnw p hp).2
    · have h2 := hex p hp
      refine ⟨h2.1, fun q => ?_, ?_⟩
      · obtain ⟨oL, _, _, eL, _⟩ := F.ns
        have h3 := h2.2
        rw [q, eL] at h3; cases h3
      · cases q : g.get? p.1 with
        | none => rfl
        | some o => have h3 := F.keep _ _ q; rw [h2.2] at h3; cases h3
theorem ttext_call {tx tdx en pa : Addr} {nm : Str} {u0 u1 u2 u3 u4 : Tok} {oE : Obj} {kvs : List (Str × Value)} {ex : List (Addr × Obj)} {es : List Ent}
    (S : Sx w mean mg mb g) (F : Fr g L s.heap m) (N : News g L s.heap news)
    (hen : (en, oE) ∈ news) (htx : (tx, tbObj tdx) ∈ news) (htd : (tdx, tbDict w.params nm pa en u0 u1 u2 u3 u4) ∈ news) (hex : ∀ p ∈ ex, p ∈ news)
    (hE : oE.IsDictOf (PySem.strKind PySem.Challenge.rw_on0064_01.row.prog w) kvs) (lo : (en == sysModules) = false)
    (hab : AbsIn w.params ex (kvs.map (·.2)) es) (hok : ∀ e ∈ es, EntOk e) (h64 : kvs.length < 64)
    (hA : A = ⟨none, dp, fr, gd, un⟩) (hroom : dp + 40 < recursionLimit) (hu : un ≤ 8890)
    (k : ∀ D vs' n' h' tk, AllNe D news → Fr g L h' m → News g L h' ((D, listOf (List.toArray vs') n') :: news) → IntsAre vs' (textF es) → vs'.length = (textF es).length → Q (.ref D) { s with heap := h', toks := tk }) :
    wpAny (model PySem.Challenge.rw_on0064_01.row.prog w) A (call (.ref 106) [.ref tx]) Q E s := by
  subst hA
  exact wpAny_call (table_spec (hd := none) S (.inl rfl) F.keep (N.get htx) (N.get htd) (N.get hen) hE lo (N _ htx).2.2 (N _ htd).2.2 (N _ hen).2.2 hab (fun p hp => ⟨N.get (hex p hp), (N p (hex p hp)).2.2⟩) hok h64 hroom hu (newInts_call F N k))
end

section
variable {prog : Program} {w : World} {A : Around} {s : Shared} {g : Heap} {env : Env}
theorem for_range {E : Value → Shared → Prop} {Q : Flow → Shared → Prop} {x : Str} {body : List Stmt} {r : Addr} {b : Int} {t u v : Tok} {n : Nat} {m : Str → Option Value} {news : List (Addr × Obj)} {px : Pos}
    (J : Nat → (Str → Option Value) → List (Addr × Obj) → Prop) (hh : A.handled = none)
    (F : Fr g env.locals s.heap m) (N : News g env.locals s.heap news) (hr : IsRange s.heap r 0 b 1 t u v) (hb : b = ((n : Nat) : Int)) (hbn : n < 1000)
    (h0 : J 0 m news)
    (step : ∀ I i v m₁ news₁ oI h tk, i < n → J i m₁ news₁ → AllNe I news₁ → Fr g env.locals h (fun y => if y = x then some v else m₁ y) → News g env.locals h ((I, oI) :: news₁) →
      wpAny (model prog w) A (execs body env) (ForStep g env.locals I oI s (J (i + 1)) Q) E { s with heap := h, toks := tk })
    (done : ∀ h tk m' news', Fr g env.locals h m' → News g env.locals h news' → J n m' news' → Q .next { s with heap := h, toks := tk })
    (hx : env.kindOf x = some .local) (hp : (env.scope.kind == .class || (env.scope.kind == .module && env.locals != env.globals)) = false)
    (hE : PassesOwn (model prog w) A env E) :
    wpAny (model prog w) A (pyIter (.ref r)) (fun it s₂ => codeAny (model prog w) A (.forLoop (.Name x px) it body [] env) (fun r s' => match r with | .ok f => Q f s' | .error e => cameBackBy (model prog w) A env E e s') s₂) E s := by
  subst hb
  have hn : Builtin.Range.rangeSize 0 ((n : Nat) : Int) 1 = ((n : Nat) : Int) := by
    rw [rangeSize_nat]; simp
  have hsm : Builtin.Range.small 0 ((n : Nat) : Int) 1 = true := by
    exact small_one (by omega) (by omega) (by omega) (by omega)
  have hLI : env.locals ≠ s.heap.objs.size := Nat.ne_of_lt F.ns.lt
  have hgI : g.get? s.heap.objs.size = none := fresh_of_stays (fun b o q => F.keep b o q) (Heap.get?_none_of_le (Nat.le_refl _))
  refine wpAny_pyIter_range hr hsm ?_
  refine for_walk (s := { s with heap := s.heap.push _ }) (fp := [s.heap.objs.size]) J (LCg.range_walks hh 0 n) hx hp hgI hLI ?_ ?_ ?_ (F.push _) (fun p hp' => ⟨Heap.get?_push_of_some _ (N p hp').1, (N p hp').2⟩) (allNe_of fun p hp' => Nat.ne_of_lt (Heap.lt_size (N p hp').1)) h0 ⟨_, Heap.get?_push_size _ rfl⟩ (fun i h st => ⟨_, st⟩) ?_ ?_ hE
  · simpa using hLI
  · exact fun b hb => .inl (by simpa using hb)
  · show IsRangeIter _ _ _ _ _
    rw [hn]; simpa using Heap.get?_push_size _ rfl
  · intro i v m₁ news₁ oI h tk hi hv hJ hne F₁ N₁
    exact wpAny_mono (step _ i v m₁ news₁ oI h tk hi hJ hne F₁ N₁) (fun _ _ q => q.at) fun _ _ e => e
  · intro h tk m' news' F₁ N₁ hJ
    exact done h tk m' news' F₁ N₁ hJ
end
end

local macro_rules | `(tactic| walk_at "t_kmk_slice_ints") => `(tactic| (intro D' ws' h' F' N' l1 hI' hC' hL'; (try simp only [Int.reduceNeg, Int.neg_neg, Int.reduceToNat] at hI' hC' hL'); (try k_lt l1); (try dsimp only); (try k_sweep)))
local macro_rules | `(tactic| walk_at "t_one_ints_call_202") => `(tactic| (intro oc ot h' tk vs' ns' n' hoc hi' hD' F' N'; (try k_sweep)))
local macro_rules | `(tactic| walk_at "t_table_call_52s") => `(tactic| (intro ax adx en t1 t2 t3 t4 oE h' tk l1 l2 l3 l4 lo hs F' N'; (k_lt l1); (k_lt2 l2); (first | (replace l4 := neAll_of l4; dsimp only [NeAll] at l4; fail_if_success (unfold NeAll at l4)) | simp only [AllNe, and_true] at l4); (try k_sweep)))
local macro_rules | `(tactic| k_mem) => `(tactic| with_reducible assumption)
local macro_rules | `(tactic| k_all) => `(tactic| with_reducible assumption)
section


noncomputable def lawDef : Option (List Stmt × Scope) := match PySem.Challenge.pw_on0064_01.main.body.getLast? with
  | some (.FunctionDef _ _ b _ _ _ sc _ _ _) => some (b, sc)
  | _ => none
noncomputable def lawBody : List Stmt := match lawDef with | some p => p.1 | none => []
noncomputable def lawScope : Scope := match lawDef with | some p => p.2 | none => { kind := .function, names := [], isGenerator := false, isCoroutine := false }
noncomputable def turnBody : List Stmt := match lawBody with
  | [_, _, _, _, .For _ _ b _ _, _] => b
  | _ => []
noncomputable def turnRest : List Stmt := match turnBody with
  | _ :: _ :: r => r
  | _ => []
noncomputable def endBody : List Stmt := match lawBody with
  | [_, _, _, _, _, e] => [e]
  | _ => []
noncomputable def e1 : Ent := ([120], 3, [121], false)
theorem e1_row : rowE e1 = [34, 120, 34, 32, 51, 32, 34, 121, 34, 10] := by decide +kernel
theorem e1_ents : entsOf (rowE e1) = some [e1] := by rw [e1_row]; decide +kernel
theorem e1_codes : ∀ c ∈ rowE e1, 0 ≤ c ∧ c < 1000000 := by rw [e1_row]; decide
theorem e1_len : (rowE e1).length = 10 := by rw [e1_row]; rfl
theorem e1_ok : EntOk e1 := ⟨by decide, by decide, by decide, by decide, by decide, by decide +kernel⟩
theorem bad1 : entsOf [34, 97, 34, 32, 48, 49, 32, 34, 98, 34, 10] = none := by decide +kernel
theorem bad2 : entsOf [34, 97, 34, 32, 48, 48, 32, 34, 98, 34, 10] = none := by decide +kernel
theorem bad3 : entsOf [34, 97, 34, 32, 32, 34, 98, 34, 10] = none := by decide +kernel
section
variable {w : World} {mean : ExcName → Option Value} {mg mb : Str → Option Value} {g : Heap} {s : Shared} {dp un : Nat} {gd : Option (List Code)} {m : Str → Option Value} {L D D3 I fa : Addr} {cd : Value} {oI : Obj} {vs ys : List Value} {ns cs : List Int} {n : Nat}
  {E : Value → Shared → Prop} {Q : Flow → Shared → Prop}
set_option maxHeartbeats 8000000 in
theorem turn1 (S : Sx w mean mg mb g) (F : Fr g L s.heap m) (N : News g L s.heap [(I, oI), (D3, LCg.lst ys), (D, listOf (List.toArray vs) n)])
    (m1 : m (Str.ofString "_law_deck") = some (.ref D)) (m2 : m (Str.ofString "_law_codes") = some (.ref D3)) (hy : IntsAre ys cs) (hi : IntsAre vs ns) (hD : DeckOk ns) (hcl : cs.length ≤ 105)
    (z1 : @Ne Nat D3 I) (z2 : @Ne Nat D I) (z3 : @Ne Nat D D3) (hdp : dp + 500 < recursionLimit) (hun : un ≤ 100)
    (k : ∀ h' tk m' Dp vp np sp vs' ns' n', Fr g L h' m' → m' (Str.ofString "_law_deck") = some (.ref D) → m' (Str.ofString "_law_codes") = some (.ref D3) → m' (Str.ofString "_law_spoilt") = some (.ref Dp) →
      News g L h' [(Dp, listOf (List.toArray vp) np), (I, oI), (D3, LCg.lst ys), (D, listOf (List.toArray vs') n')] → @Ne Nat I Dp → @Ne Nat D3 Dp → @Ne Nat D Dp → IntsAre vp sp → sp.length ≤ 120 → (∀ c ∈ sp, c ∈ cs ∨ 0 ≤ c ∧ c < 1000) → IntsAre vs' ns' → DeckOk ns' →
      wpAny (model PySem.Challenge.rw_on0064_01.row.prog w) ((⟨none, dp, some [], gd, un⟩ : Around).deeper (envOf (Str.ofString "law") lawScope L fa cd)) (execs turnRest (envOf (Str.ofString "law") lawScope L fa cd)) Q E { s with heap := h', toks := tk }) :
    wpAny (model PySem.Challenge.rw_on0064_01.row.prog w) ((⟨none, dp, some [], gd, un⟩ : Around).deeper (envOf (Str.ofString "law") lawScope L fa cd)) (execs turnBody (envOf (Str.ofString "law") lawScope L fa cd)) Q E s := by
  (have KX9 : Fill Mine.hd.heap_39 PySem.Challenge.rw_on0064_01 := (by k_fill; exact trivial); clear KX9)
  have X := S.X
  have T := S.T
  have hys := hy.length
  conv in turnBody => whnf
  conv in (occs := *) lawScope => all_goals whnf
  repeat' (first | (k_unfold; (try dsimp only)) | (k_end; kc_close) | (first | ((with_reducible show wpAny _ _ (binaryOp _ (Value.ref _) (Value.ref _)) _ _ _); with_reducible (with_reducible refine Stop.go ?_)) | ((with_reducible show wpAny _ _ (eval (Expr.ListComp _ _ _ _) _) _ _ _); with_reducible (with_reducible refine Stop.go ?_)) | ((with_reducible show wpAny _ _ (call (Value.ref _) _ _) _ _ _); first | ((with_unfolding_all show wpAny _ _ (call (Value.ref 183) [Value.ref _, Value.ref _]) _ _ _); with_reducible refine Stop.go ?_) | ((with_unfolding_all show wpAny _ _ (call (Value.ref 219) [Value.ref _]) _ _ _); with_reducible refine Stop.go ?_) | ((with_unfolding_all show wpAny _ _ (call (Value.ref 106) [Value.ref _]) _ _ _); with_reducible refine Stop.go ?_) | ((with_unfolding_all show wpAny _ _ (call (Value.ref 238) [Value.ref _]) _ _ _); with_reducible refine Stop.go ?_) | ((with_unfolding_all show wpAny _ _ (call (Value.ref 250) [Value.ref _, Value.ref _, Value.ref _]) _ _ _); with_reducible refine Stop.go ?_) | ((with_unfolding_all show wpAny _ _ (call (Value.ref 207) [Value.ref _, Value.str _ _, Value.int _ _]) _ _ _); with_reducible refine Stop.go ?_) | ((with_unfolding_all show wpAny _ _ (call (Value.ref 195) [Value.ref _]) _ _ _); with_reducible refine Stop.go ?_) | (k_here; (with_unfolding_all show wpAny _ _ (call (Value.ref 202) [Value.ref _, Value.ref _]) _ _ _); (refine' one_ints_call ?k9S ?k9F ?k9N ?k9U ?k9hi ?k9hD ?k9hq ?k9hz ?k9hlq ?k9hx0 ?k9hx1 ?k9hA ?k9hroom ?k9hu ?_; (case k9F => k_asm); (case k9S => assumption); (case k9N => k_asm); (case k9U => k_updF); (case k9hi => assumption); (case k9hD => assumption); (case k9hq => is_list); (case k9hz => l_ints); (case k9hlq => first | assumption | omega); (case k9hx0 => first | assumption | decide | (simp only [List.length_cons]; omega)); (case k9hx1 => first | assumption | decide | (simp only [List.length_cons, List.length_nil]; omega)); (case k9hA => rfl); (case k9hroom => walk_at "m_rm"); (case k9hu => walk_at "m_rm"); k_whole); walk_at "t_one_ints_call_202") | (k_here; (with_unfolding_all show wpAny _ _ (call (Value.ref 190) [Value.ref _, Value.int _ _]) _ _ _); (refine' draw_call ?k9S ?k9F ?k9N ?k9U ?k9hi ?k9hD ?k9hm0 ?k9hm1 ?k9hA ?k9hroom ?k9hu ?_; (case k9F => k_asm); (case k9S => assumption); (case k9N => k_asm); (case k9U => k_updF); (case k9hi => assumption); (case k9hD => assumption); (case k9hm0 => first | assumption | omega); (case k9hm1 => first | assumption | omega); (case k9hA => rfl); (case k9hroom => walk_at "m_rm"); (case k9hu => walk_at "m_rm"); k_whole); walk_at "t_draw_call_190") | (k_here; (with_unfolding_all show wpAny _ _ (call (Value.ref 214) [Value.ref _]) _ _ _); (refine' shown_call ?k9S ?k9F ?k9N ?k9hl ?k9hi ?k9hlen ?k9hA ?k9hroom ?_; (case k9F => k_asm); (case k9N => k_asm); (case k9S => assumption); (case k9hl => is_list); (case k9hi => l_ints); (case k9hlen => walk_at "m_rm"); (case k9hA => rfl); (case k9hroom => walk_at "m_rm"); k_whole); walk_at "t_shown_call_214") | (k_here; (with_unfolding_all show wpAny _ _ (call (Value.ref 52) [Value.str _ _, Value.ref _]) _ _ _); (refine' table_call ?k9S ?k9F ?k9N ?k9hA ?k9hroom ?_; (case k9F => k_asm); (case k9S => assumption); (case k9N => k_asm); (case k9hA => rfl); (case k9hroom => walk_at "m_rm"); k_whole); walk_at "t_table_call_52s")) | ((with_reducible show wpAny _ _ (eval (Expr.IfExp _ _ _ _) _) _ _ _); with_reducible (with_reducible refine Stop.go ?_)) | ((with_reducible show wpAny _ _ (execs (_ :: _) _) _ _ _); with_reducible ((with_reducible show wpAny _ _ (execs (Stmt.Assign [Expr.Name (Str.ofString "_law_table") _] _ _ :: _) _) _ _ _); with_reducible refine Stop.go ?_)) | ((with_reducible show wpAny _ _ (subscriptTail _ _ (Value.ref _) (Value.ref _)) _ _ _); with_reducible (k_here; (with_reducible show wpAny _ _ (subscriptTail _ (PySem.Expr.Slice _ _ none _) (Value.ref _) (Value.ref _)) _ _ _); k_dflt (refine' kmk_slice_ints (s := ⟨_, _, _, _, _⟩) ?k9F ?k9N ?k9l ?k9p ?k9q ?k9i ?k9m ?k9c ?_ ?k9s ?k9t ?k9z; (case k9F => k_asm); (case k9N => k_asm); (case k9l => kmk_list); (case k9p => kmk_part); (case k9q => kmk_part); (case k9i => l_ints); (case k9m => first | exact kmk_from (by l_ints) (by omega) | kmk_nums); (case k9c => kmk_len); (case k9s => with_unfolding_all rfl); (case k9t => kmk_pure); (case k9z => kmk_size); k_whole); walk_at "t_kmk_slice_ints")) | ((with_reducible show wpAny _ _ (exec (Stmt.While _ _ _ _) _) _ _ _); with_reducible (with_reducible refine Stop.go ?_))) | walk1 | (dsimp only; walk1) | (leave1; (try dsimp only)))
  rename_i da dat _ _ _ _ _ da0 da1 _ _ dw dwt _ _ _ _ _ dw0 dw1 _ _ _ _ _ oc ot _ _ vsA nsA nA hoc hiA hDA tp _ _ _ _ _ _ Ds wsS _ FA NA hIS hCS hLS lS
  have NB := News.sub (news' := [(Ds, listOf (List.toArray wsS) 0), (I, oI), (D3, LCg.lst ys), (D, listOf (List.toArray vsA) nA)]) NA (by walk_at "m_allIn")
  clear NA
  have a1 : @Ne Nat I Ds := Nat.ne_of_lt lS.2.2.1
  have a2 : @Ne Nat D3 Ds := Nat.ne_of_lt lS.2.2.2.1
  have a3 : @Ne Nat D Ds := Nat.ne_of_lt lS.2.2.2.2
  clear lS
  refine Stop.go (join_list (fun vz => ∃ zs, IntsAre vz zs ∧ zs.length ≤ 1 ∧ ∀ c ∈ zs, 0 ≤ c ∧ c < 1000) FA NB ?_ ?_)
  · dsimp only
    refine wpAny_IfExp ?_
    repeat' (first | (k_unfold; (try dsimp only)) | (k_end; kc_close) | (first | ((with_reducible show wpAny _ _ (binaryOp _ (Value.ref _) (Value.ref _)) _ _ _); with_reducible (with_reducible refine Stop.go ?_)) | ((with_reducible show wpAny _ _ (eval (Expr.ListComp _ _ _ _) _) _ _ _); with_reducible (with_reducible refine Stop.go ?_)) | ((with_reducible show wpAny _ _ (call (Value.ref _) _ _) _ _ _); first | ((with_unfolding_all show wpAny _ _ (call (Value.ref 183) [Value.ref _, Value.ref _]) _ _ _); with_reducible refine Stop.go ?_) | ((with_unfolding_all show wpAny _ _ (call (Value.ref 219) [Value.ref _]) _ _ _); with_reducible refine Stop.go ?_) | ((with_unfolding_all show wpAny _ _ (call (Value.ref 106) [Value.ref _]) _ _ _); with_reducible refine Stop.go ?_) | ((with_unfolding_all show wpAny _ _ (call (Value.ref 238) [Value.ref _]) _ _ _); with_reducible refine Stop.go ?_) | ((with_unfolding_all show wpAny _ _ (call (Value.ref 250) [Value.ref _, Value.ref _, Value.ref _]) _ _ _); with_reducible refine Stop.go ?_) | ((with_unfolding_all show wpAny _ _ (call (Value.ref 207) [Value.ref _, Value.str _ _, Value.int _ _]) _ _ _); with_reducible refine Stop.go ?_) | ((with_unfolding_all show wpAny _ _ (call (Value.ref 195) [Value.ref _]) _ _ _); with_reducible refine Stop.go ?_) | (k_here; (with_unfolding_all show wpAny _ _ (call (Value.ref 202) [Value.ref _, Value.ref _]) _ _ _); (refine' one_ints_call ?k9S ?k9F ?k9N ?k9U ?k9hi ?k9hD ?k9hq ?k9hz ?k9hlq ?k9hx0 ?k9hx1 ?k9hA ?k9hroom ?k9hu ?_; (case k9F => k_asm); (case k9S => assumption); (case k9N => k_asm); (case k9U => k_updF); (case k9hi => assumption); (case k9hD => assumption); (case k9hq => is_list); (case k9hz => l_ints); (case k9hlq => first | assumption | omega); (case k9hx0 => first | assumption | decide | (simp only [List.length_cons]; omega)); (case k9hx1 => first | assumption | decide | (simp only [List.length_cons, List.length_nil]; omega)); (case k9hA => rfl); (case k9hroom => walk_at "m_rm"); (case k9hu => walk_at "m_rm"); k_whole); walk_at "t_one_ints_call_202") | (k_here; (with_unfolding_all show wpAny _ _ (call (Value.ref 190) [Value.ref _, Value.int _ _]) _ _ _); (refine' draw_call ?k9S ?k9F ?k9N ?k9U ?k9hi ?k9hD ?k9hm0 ?k9hm1 ?k9hA ?k9hroom ?k9hu ?_; (case k9F => k_asm); (case k9S => assumption); (case k9N => k_asm); (case k9U => k_updF); (case k9hi => assumption); (case k9hD => assumption); (case k9hm0 => first | assumption | omega); (case k9hm1 => first | assumption | omega); (case k9hA => rfl); (case k9hroom => walk_at "m_rm"); (case k9hu => walk_at "m_rm"); k_whole); walk_at "t_draw_call_190") | (k_here; (with_unfolding_all show wpAny _ _ (call (Value.ref 214) [Value.ref _]) _ _ _); (refine' shown_call ?k9S ?k9F ?k9N ?k9hl ?k9hi ?k9hlen ?k9hA ?k9hroom ?_; (case k9F => k_asm); (case k9N => k_asm); (case k9S => assumption); (case k9hl => is_list); (case k9hi => l_ints); (case k9hlen => walk_at "m_rm"); (case k9hA => rfl); (case k9hroom => walk_at "m_rm"); k_whole); walk_at "t_shown_call_214") | (k_here; (with_unfolding_all show wpAny _ _ (call (Value.ref 52) [Value.str _ _, Value.ref _]) _ _ _); (refine' table_call ?k9S ?k9F ?k9N ?k9hA ?k9hroom ?_; (case k9F => k_asm); (case k9S => assumption); (case k9N => k_asm); (case k9hA => rfl); (case k9hroom => walk_at "m_rm"); k_whole); walk_at "t_table_call_52s")) | ((with_reducible show wpAny _ _ (eval (Expr.IfExp _ _ _ _) _) _ _ _); with_reducible (with_reducible refine Stop.go ?_)) | ((with_reducible show wpAny _ _ (execs (_ :: _) _) _ _ _); with_reducible ((with_reducible show wpAny _ _ (execs (Stmt.Assign [Expr.Name (Str.ofString "_law_table") _] _ _ :: _) _) _ _ _); with_reducible refine Stop.go ?_)) | ((with_reducible show wpAny _ _ (subscriptTail _ _ (Value.ref _) (Value.ref _)) _ _ _); with_reducible (k_here; (with_reducible show wpAny _ _ (subscriptTail _ (PySem.Expr.Slice _ _ none _) (Value.ref _) (Value.ref _)) _ _ _); k_dflt (refine' kmk_slice_ints (s := ⟨_, _, _, _, _⟩) ?k9F ?k9N ?k9l ?k9p ?k9q ?k9i ?k9m ?k9c ?_ ?k9s ?k9t ?k9z; (case k9F => k_asm); (case k9N => k_asm); (case k9l => kmk_list); (case k9p => kmk_part); (case k9q => kmk_part); (case k9i => l_ints); (case k9m => first | exact kmk_from (by l_ints) (by omega) | kmk_nums); (case k9c => kmk_len); (case k9s => with_unfolding_all rfl); (case k9t => kmk_pure); (case k9z => kmk_size); k_whole); walk_at "t_kmk_slice_ints")) | ((with_reducible show wpAny _ _ (exec (Stmt.While _ _ _ _) _) _ _ _); with_reducible (with_reducible refine Stop.go ?_))) | walk1 | (dsimp only; walk1) | (leave1; (try dsimp only)))
    · rename Fr _ _ _ _ => F9
      rename News _ _ _ _ => N9
      rename_i l0 _ ll
      exact Stop.go ⟨l0, [], 0, _, _, rfl, rfl, ⟨Nat.ne_of_lt ll.1, Nat.ne_of_lt ll.2.1, Nat.ne_of_lt ll.2.2.1, Nat.ne_of_lt ll.2.2.2, trivial⟩, F9, N9, [], .nil, by simp, by simp⟩
    · rename Fr _ _ _ _ => F9
      rename News _ _ _ _ => N9
      rename_i l0 _ ll
      exact Stop.go ⟨l0, [.int oc ot], 0, _, _, rfl, rfl, ⟨Nat.ne_of_lt ll.1, Nat.ne_of_lt ll.2.1, Nat.ne_of_lt ll.2.2.1, Nat.ne_of_lt ll.2.2.2, trivial⟩, F9, N9, [oc], .cons _ _ .nil, by simp, by simpa using ((by decide : ∀ c ∈ [(34 : Int), 92, 10, 32, 48, 49, 97, 110], 0 ≤ c ∧ c < 1000) oc hoc)⟩
  · intro Dz vz nz hz tkz hnz FB NC Pz
    clear FA NB
    obtain ⟨zs, hzi, hzl, hzc⟩ := Pz
    have hzvl := hzi.length
    obtain ⟨b1, b2, b3, b4, _⟩ := hnz
    have b1 : @Ne Nat Ds Dz := b1
    have b2 : @Ne Nat I Dz := b2
    have b3 : @Ne Nat D3 Dz := b3
    have b4 : @Ne Nat D Dz := b4
    (try dsimp only)
    repeat' (first | (k_unfold; (try dsimp only)) | (k_end; kc_close) | (first | ((with_reducible show wpAny _ _ (binaryOp _ (Value.ref _) (Value.ref _)) _ _ _); with_reducible (with_reducible refine Stop.go ?_)) | ((with_reducible show wpAny _ _ (eval (Expr.ListComp _ _ _ _) _) _ _ _); with_reducible (with_reducible refine Stop.go ?_)) | ((with_reducible show wpAny _ _ (call (Value.ref _) _ _) _ _ _); first | ((with_unfolding_all show wpAny _ _ (call (Value.ref 183) [Value.ref _, Value.ref _]) _ _ _); with_reducible refine Stop.go ?_) | ((with_unfolding_all show wpAny _ _ (call (Value.ref 219) [Value.ref _]) _ _ _); with_reducible refine Stop.go ?_) | ((with_unfolding_all show wpAny _ _ (call (Value.ref 106) [Value.ref _]) _ _ _); with_reducible refine Stop.go ?_) | ((with_unfolding_all show wpAny _ _ (call (Value.ref 238) [Value.ref _]) _ _ _); with_reducible refine Stop.go ?_) | ((with_unfolding_all show wpAny _ _ (call (Value.ref 250) [Value.ref _, Value.ref _, Value.ref _]) _ _ _); with_reducible refine Stop.go ?_) | ((with_unfolding_all show wpAny _ _ (call (Value.ref 207) [Value.ref _, Value.str _ _, Value.int _ _]) _ _ _); with_reducible refine Stop.go ?_) | ((with_unfolding_all show wpAny _ _ (call (Value.ref 195) [Value.ref _]) _ _ _); with_reducible refine Stop.go ?_) | (k_here; (with_unfolding_all show wpAny _ _ (call (Value.ref 202) [Value.ref _, Value.ref _]) _ _ _); (refine' one_ints_call ?k9S ?k9F ?k9N ?k9U ?k9hi ?k9hD ?k9hq ?k9hz ?k9hlq ?k9hx0 ?k9hx1 ?k9hA ?k9hroom ?k9hu ?_; (case k9F => k_asm); (case k9S => assumption); (case k9N => k_asm); (case k9U => k_updF); (case k9hi => assumption); (case k9hD => assumption); (case k9hq => is_list); (case k9hz => l_ints); (case k9hlq => first | assumption | omega); (case k9hx0 => first | assumption | decide | (simp only [List.length_cons]; omega)); (case k9hx1 => first | assumption | decide | (simp only [List.length_cons, List.length_nil]; omega)); (case k9hA => rfl); (case k9hroom => walk_at "m_rm"); (case k9hu => walk_at "m_rm"); k_whole); walk_at "t_one_ints_call_202") | (k_here; (with_unfolding_all show wpAny _ _ (call (Value.ref 190) [Value.ref _, Value.int _ _]) _ _ _); (refine' draw_call ?k9S ?k9F ?k9N ?k9U ?k9hi ?k9hD ?k9hm0 ?k9hm1 ?k9hA ?k9hroom ?k9hu ?_; (case k9F => k_asm); (case k9S => assumption); (case k9N => k_asm); (case k9U => k_updF); (case k9hi => assumption); (case k9hD => assumption); (case k9hm0 => first | assumption | omega); (case k9hm1 => first | assumption | omega); (case k9hA => rfl); (case k9hroom => walk_at "m_rm"); (case k9hu => walk_at "m_rm"); k_whole); walk_at "t_draw_call_190") | (k_here; (with_unfolding_all show wpAny _ _ (call (Value.ref 214) [Value.ref _]) _ _ _); (refine' shown_call ?k9S ?k9F ?k9N ?k9hl ?k9hi ?k9hlen ?k9hA ?k9hroom ?_; (case k9F => k_asm); (case k9N => k_asm); (case k9S => assumption); (case k9hl => is_list); (case k9hi => l_ints); (case k9hlen => walk_at "m_rm"); (case k9hA => rfl); (case k9hroom => walk_at "m_rm"); k_whole); walk_at "t_shown_call_214") | (k_here; (with_unfolding_all show wpAny _ _ (call (Value.ref 52) [Value.str _ _, Value.ref _]) _ _ _); (refine' table_call ?k9S ?k9F ?k9N ?k9hA ?k9hroom ?_; (case k9F => k_asm); (case k9S => assumption); (case k9N => k_asm); (case k9hA => rfl); (case k9hroom => walk_at "m_rm"); k_whole); walk_at "t_table_call_52s")) | ((with_reducible show wpAny _ _ (eval (Expr.IfExp _ _ _ _) _) _ _ _); with_reducible (with_reducible refine Stop.go ?_)) | ((with_reducible show wpAny _ _ (execs (_ :: _) _) _ _ _); with_reducible ((with_reducible show wpAny _ _ (execs (Stmt.Assign [Expr.Name (Str.ofString "_law_table") _] _ _ :: _) _) _ _ _); with_reducible refine Stop.go ?_)) | ((with_reducible show wpAny _ _ (subscriptTail _ _ (Value.ref _) (Value.ref _)) _ _ _); with_reducible (k_here; (with_reducible show wpAny _ _ (subscriptTail _ (PySem.Expr.Slice _ _ none _) (Value.ref _) (Value.ref _)) _ _ _); k_dflt (refine' kmk_slice_ints (s := ⟨_, _, _, _, _⟩) ?k9F ?k9N ?k9l ?k9p ?k9q ?k9i ?k9m ?k9c ?_ ?k9s ?k9t ?k9z; (case k9F => k_asm); (case k9N => k_asm); (case k9l => kmk_list); (case k9p => kmk_part); (case k9q => kmk_part); (case k9i => l_ints); (case k9m => first | exact kmk_from (by l_ints) (by omega) | kmk_nums); (case k9c => kmk_len); (case k9s => with_unfolding_all rfl); (case k9t => kmk_pure); (case k9z => kmk_size); k_whole); walk_at "t_kmk_slice_ints")) | ((with_reducible show wpAny _ _ (exec (Stmt.While _ _ _ _) _) _ _ _); with_reducible (with_reducible refine Stop.go ?_))) | walk1 | (dsimp only; walk1) | (leave1; (try dsimp only)))
    refine Stop.go ?_
    (try dsimp only)
    k_dflt (refine' kmk_add_ints ?F ?N ?a ?b ?i ?j ?_ ?zz)
    case F => k_asm
    case N => k_asm
    case a => kmk_list
    case b => kmk_list
    case i => l_ints
    case j => l_ints
    case zz => rw [sizeLine_eq]; omega
    intro Dy wsY _ FA NA lY hIY
    k_lt lY
    (try dsimp only)
    k_sweep
    repeat' (first | (k_unfold; (try dsimp only)) | (k_end; kc_close) | (first | ((with_reducible show wpAny _ _ (binaryOp _ (Value.ref _) (Value.ref _)) _ _ _); with_reducible (with_reducible refine Stop.go ?_)) | ((with_reducible show wpAny _ _ (eval (Expr.ListComp _ _ _ _) _) _ _ _); with_reducible (with_reducible refine Stop.go ?_)) | ((with_reducible show wpAny _ _ (call (Value.ref _) _ _) _ _ _); first | ((with_unfolding_all show wpAny _ _ (call (Value.ref 183) [Value.ref _, Value.ref _]) _ _ _); with_reducible refine Stop.go ?_) | ((with_unfolding_all show wpAny _ _ (call (Value.ref 219) [Value.ref _]) _ _ _); with_reducible refine Stop.go ?_) | ((with_unfolding_all show wpAny _ _ (call (Value.ref 106) [Value.ref _]) _ _ _); with_reducible refine Stop.go ?_) | ((with_unfolding_all show wpAny _ _ (call (Value.ref 238) [Value.ref _]) _ _ _); with_reducible refine Stop.go ?_) | ((with_unfolding_all show wpAny _ _ (call (Value.ref 250) [Value.ref _, Value.ref _, Value.ref _]) _ _ _); with_reducible refine Stop.go ?_) | ((with_unfolding_all show wpAny _ _ (call (Value.ref 207) [Value.ref _, Value.str _ _, Value.int _ _]) _ _ _); with_reducible refine Stop.go ?_) | ((with_unfolding_all show wpAny _ _ (call (Value.ref 195) [Value.ref _]) _ _ _); with_reducible refine Stop.go ?_) | (k_here; (with_unfolding_all show wpAny _ _ (call (Value.ref 202) [Value.ref _, Value.ref _]) _ _ _); (refine' one_ints_call ?k9S ?k9F ?k9N ?k9U ?k9hi ?k9hD ?k9hq ?k9hz ?k9hlq ?k9hx0 ?k9hx1 ?k9hA ?k9hroom ?k9hu ?_; (case k9F => k_asm); (case k9S => assumption); (case k9N => k_asm); (case k9U => k_updF); (case k9hi => assumption); (case k9hD => assumption); (case k9hq => is_list); (case k9hz => l_ints); (case k9hlq => first | assumption | omega); (case k9hx0 => first | assumption | decide | (simp only [List.length_cons]; omega)); (case k9hx1 => first | assumption | decide | (simp only [List.length_cons, List.length_nil]; omega)); (case k9hA => rfl); (case k9hroom => walk_at "m_rm"); (case k9hu => walk_at "m_rm"); k_whole); walk_at "t_one_ints_call_202") | (k_here; (with_unfolding_all show wpAny _ _ (call (Value.ref 190) [Value.ref _, Value.int _ _]) _ _ _); (refine' draw_call ?k9S ?k9F ?k9N ?k9U ?k9hi ?k9hD ?k9hm0 ?k9hm1 ?k9hA ?k9hroom ?k9hu ?_; (case k9F => k_asm); (case k9S => assumption); (case k9N => k_asm); (case k9U => k_updF); (case k9hi => assumption); (case k9hD => assumption); (case k9hm0 => first | assumption | omega); (case k9hm1 => first | assumption | omega); (case k9hA => rfl); (case k9hroom => walk_at "m_rm"); (case k9hu => walk_at "m_rm"); k_whole); walk_at "t_draw_call_190") | (k_here; (with_unfolding_all show wpAny _ _ (call (Value.ref 214) [Value.ref _]) _ _ _); (refine' shown_call ?k9S ?k9F ?k9N ?k9hl ?k9hi ?k9hlen ?k9hA ?k9hroom ?_; (case k9F => k_asm); (case k9N => k_asm); (case k9S => assumption); (case k9hl => is_list); (case k9hi => l_ints); (case k9hlen => walk_at "m_rm"); (case k9hA => rfl); (case k9hroom => walk_at "m_rm"); k_whole); walk_at "t_shown_call_214") | (k_here; (with_unfolding_all show wpAny _ _ (call (Value.ref 52) [Value.str _ _, Value.ref _]) _ _ _); (refine' table_call ?k9S ?k9F ?k9N ?k9hA ?k9hroom ?_; (case k9F => k_asm); (case k9S => assumption); (case k9N => k_asm); (case k9hA => rfl); (case k9hroom => walk_at "m_rm"); k_whole); walk_at "t_table_call_52s")) | ((with_reducible show wpAny _ _ (eval (Expr.IfExp _ _ _ _) _) _ _ _); with_reducible (with_reducible refine Stop.go ?_)) | ((with_reducible show wpAny _ _ (execs (_ :: _) _) _ _ _); with_reducible ((with_reducible show wpAny _ _ (execs (Stmt.Assign [Expr.Name (Str.ofString "_law_table") _] _ _ :: _) _) _ _ _); with_reducible refine Stop.go ?_)) | ((with_reducible show wpAny _ _ (subscriptTail _ _ (Value.ref _) (Value.ref _)) _ _ _); with_reducible (k_here; (with_reducible show wpAny _ _ (subscriptTail _ (PySem.Expr.Slice _ _ none _) (Value.ref _) (Value.ref _)) _ _ _); k_dflt (refine' kmk_slice_ints (s := ⟨_, _, _, _, _⟩) ?k9F ?k9N ?k9l ?k9p ?k9q ?k9i ?k9m ?k9c ?_ ?k9s ?k9t ?k9z; (case k9F => k_asm); (case k9N => k_asm); (case k9l => kmk_list); (case k9p => kmk_part); (case k9q => kmk_part); (case k9i => l_ints); (case k9m => first | exact kmk_from (by l_ints) (by omega) | kmk_nums); (case k9c => kmk_len); (case k9s => with_unfolding_all rfl); (case k9t => kmk_pure); (case k9z => kmk_size); k_whole); walk_at "t_kmk_slice_ints")) | ((with_reducible show wpAny _ _ (exec (Stmt.While _ _ _ _) _) _ _ _); with_reducible (with_reducible refine Stop.go ?_))) | walk1 | (dsimp only; walk1) | (leave1; (try dsimp only)))
    have NB := News.sub (news' := [(Dy, listOf (List.toArray wsY) 0), (I, oI), (D3, LCg.lst ys), (D, listOf (List.toArray vsA) nA)]) NA (by walk_at "m_allIn")
    clear NA
    have c1 : @Ne Nat I Dy := Nat.ne_of_lt lY.2.2.1
    have c2 : @Ne Nat D3 Dy := Nat.ne_of_lt lY.2.2.2.1
    have c3 : @Ne Nat D Dy := Nat.ne_of_lt lY.2.2.2.2
    clear lY a1 a2 a3 b1 b2 b3 b4
    have hlY := hIY.length
    have hlY2 : (List.take da.toNat cs ++ zs).length ≤ 106 := by simp only [List.length_append]; omega
    refine Stop.go (join_int (fun x => 0 ≤ x ∧ x ≤ 1) FA NB ?_ ?_)
    · dsimp only
      refine wpAny_IfExp ?_
      repeat' (first | (k_unfold; (try dsimp only)) | (k_end; kc_close) | (first | ((with_reducible show wpAny _ _ (binaryOp _ (Value.ref _) (Value.ref _)) _ _ _); with_reducible (with_reducible refine Stop.go ?_)) | ((with_reducible show wpAny _ _ (eval (Expr.ListComp _ _ _ _) _) _ _ _); with_reducible (with_reducible refine Stop.go ?_)) | ((with_reducible show wpAny _ _ (call (Value.ref _) _ _) _ _ _); first | ((with_unfolding_all show wpAny _ _ (call (Value.ref 183) [Value.ref _, Value.ref _]) _ _ _); with_reducible refine Stop.go ?_) | ((with_unfolding_all show wpAny _ _ (call (Value.ref 219) [Value.ref _]) _ _ _); with_reducible refine Stop.go ?_) | ((with_unfolding_all show wpAny _ _ (call (Value.ref 106) [Value.ref _]) _ _ _); with_reducible refine Stop.go ?_) | ((with_unfolding_all show wpAny _ _ (call (Value.ref 238) [Value.ref _]) _ _ _); with_reducible refine Stop.go ?_) | ((with_unfolding_all show wpAny _ _ (call (Value.ref 250) [Value.ref _, Value.ref _, Value.ref _]) _ _ _); with_reducible refine Stop.go ?_) | ((with_unfolding_all show wpAny _ _ (call (Value.ref 207) [Value.ref _, Value.str _ _, Value.int _ _]) _ _ _); with_reducible refine Stop.go ?_) | ((with_unfolding_all show wpAny _ _ (call (Value.ref 195) [Value.ref _]) _ _ _); with_reducible refine Stop.go ?_) | (k_here; (with_unfolding_all show wpAny _ _ (call (Value.ref 202) [Value.ref _, Value.ref _]) _ _ _); (refine' one_ints_call ?k9S ?k9F ?k9N ?k9U ?k9hi ?k9hD ?k9hq ?k9hz ?k9hlq ?k9hx0 ?k9hx1 ?k9hA ?k9hroom ?k9hu ?_; (case k9F => k_asm); (case k9S => assumption); (case k9N => k_asm); (case k9U => k_updF); (case k9hi => assumption); (case k9hD => assumption); (case k9hq => is_list); (case k9hz => l_ints); (case k9hlq => first | assumption | omega); (case k9hx0 => first | assumption | decide | (simp only [List.length_cons]; omega)); (case k9hx1 => first | assumption | decide | (simp only [List.length_cons, List.length_nil]; omega)); (case k9hA => rfl); (case k9hroom => walk_at "m_rm"); (case k9hu => walk_at "m_rm"); k_whole); walk_at "t_one_ints_call_202") | (k_here; (with_unfolding_all show wpAny _ _ (call (Value.ref 190) [Value.ref _, Value.int _ _]) _ _ _); (refine' draw_call ?k9S ?k9F ?k9N ?k9U ?k9hi ?k9hD ?k9hm0 ?k9hm1 ?k9hA ?k9hroom ?k9hu ?_; (case k9F => k_asm); (case k9S => assumption); (case k9N => k_asm); (case k9U => k_updF); (case k9hi => assumption); (case k9hD => assumption); (case k9hm0 => first | assumption | omega); (case k9hm1 => first | assumption | omega); (case k9hA => rfl); (case k9hroom => walk_at "m_rm"); (case k9hu => walk_at "m_rm"); k_whole); walk_at "t_draw_call_190") | (k_here; (with_unfolding_all show wpAny _ _ (call (Value.ref 214) [Value.ref _]) _ _ _); (refine' shown_call ?k9S ?k9F ?k9N ?k9hl ?k9hi ?k9hlen ?k9hA ?k9hroom ?_; (case k9F => k_asm); (case k9N => k_asm); (case k9S => assumption); (case k9hl => is_list); (case k9hi => l_ints); (case k9hlen => walk_at "m_rm"); (case k9hA => rfl); (case k9hroom => walk_at "m_rm"); k_whole); walk_at "t_shown_call_214") | (k_here; (with_unfolding_all show wpAny _ _ (call (Value.ref 52) [Value.str _ _, Value.ref _]) _ _ _); (refine' table_call ?k9S ?k9F ?k9N ?k9hA ?k9hroom ?_; (case k9F => k_asm); (case k9S => assumption); (case k9N => k_asm); (case k9hA => rfl); (case k9hroom => walk_at "m_rm"); k_whole); walk_at "t_table_call_52s")) | ((with_reducible show wpAny _ _ (eval (Expr.IfExp _ _ _ _) _) _ _ _); with_reducible (with_reducible refine Stop.go ?_)) | ((with_reducible show wpAny _ _ (execs (_ :: _) _) _ _ _); with_reducible ((with_reducible show wpAny _ _ (execs (Stmt.Assign [Expr.Name (Str.ofString "_law_table") _] _ _ :: _) _) _ _ _); with_reducible refine Stop.go ?_)) | ((with_reducible show wpAny _ _ (subscriptTail _ _ (Value.ref _) (Value.ref _)) _ _ _); with_reducible (k_here; (with_reducible show wpAny _ _ (subscriptTail _ (PySem.Expr.Slice _ _ none _) (Value.ref _) (Value.ref _)) _ _ _); k_dflt (refine' kmk_slice_ints (s := ⟨_, _, _, _, _⟩) ?k9F ?k9N ?k9l ?k9p ?k9q ?k9i ?k9m ?k9c ?_ ?k9s ?k9t ?k9z; (case k9F => k_asm); (case k9N => k_asm); (case k9l => kmk_list); (case k9p => kmk_part); (case k9q => kmk_part); (case k9i => l_ints); (case k9m => first | exact kmk_from (by l_ints) (by omega) | kmk_nums); (case k9c => kmk_len); (case k9s => with_unfolding_all rfl); (case k9t => kmk_pure); (case k9z => kmk_size); k_whole); walk_at "t_kmk_slice_ints")) | ((with_reducible show wpAny _ _ (exec (Stmt.While _ _ _ _) _) _ _ _); with_reducible (with_reducible refine Stop.go ?_))) | walk1 | (dsimp only; walk1) | (leave1; (try dsimp only)))
      · dsimp only
        exact Stop.go ⟨0, _, _, _, rfl, rfl, FA, NB, by omega, by omega⟩
      · dsimp only
        exact Stop.go ⟨1, _, _, _, rfl, rfl, FA, NB, by omega, by omega⟩
    · intro x xt hx tkx FB NC Px
      clear FA NB
      obtain ⟨x0, x1⟩ := Px
      (try dsimp only)
      repeat' (first | (k_unfold; (try dsimp only)) | (k_end; kc_close) | (first | ((with_reducible show wpAny _ _ (binaryOp _ (Value.ref _) (Value.ref _)) _ _ _); with_reducible (with_reducible refine Stop.go ?_)) | ((with_reducible show wpAny _ _ (eval (Expr.ListComp _ _ _ _) _) _ _ _); with_reducible (with_reducible refine Stop.go ?_)) | ((with_reducible show wpAny _ _ (call (Value.ref _) _ _) _ _ _); first | ((with_unfolding_all show wpAny _ _ (call (Value.ref 183) [Value.ref _, Value.ref _]) _ _ _); with_reducible refine Stop.go ?_) | ((with_unfolding_all show wpAny _ _ (call (Value.ref 219) [Value.ref _]) _ _ _); with_reducible refine Stop.go ?_) | ((with_unfolding_all show wpAny _ _ (call (Value.ref 106) [Value.ref _]) _ _ _); with_reducible refine Stop.go ?_) | ((with_unfolding_all show wpAny _ _ (call (Value.ref 238) [Value.ref _]) _ _ _); with_reducible refine Stop.go ?_) | ((with_unfolding_all show wpAny _ _ (call (Value.ref 250) [Value.ref _, Value.ref _, Value.ref _]) _ _ _); with_reducible refine Stop.go ?_) | ((with_unfolding_all show wpAny _ _ (call (Value.ref 207) [Value.ref _, Value.str _ _, Value.int _ _]) _ _ _); with_reducible refine Stop.go ?_) | ((with_unfolding_all show wpAny _ _ (call (Value.ref 195) [Value.ref _]) _ _ _); with_reducible refine Stop.go ?_) | (k_here; (with_unfolding_all show wpAny _ _ (call (Value.ref 202) [Value.ref _, Value.ref _]) _ _ _); (refine' one_ints_call ?k9S ?k9F ?k9N ?k9U ?k9hi ?k9hD ?k9hq ?k9hz ?k9hlq ?k9hx0 ?k9hx1 ?k9hA ?k9hroom ?k9hu ?_; (case k9F => k_asm); (case k9S => assumption); (case k9N => k_asm); (case k9U => k_updF); (case k9hi => assumption); (case k9hD => assumption); (case k9hq => is_list); (case k9hz => l_ints); (case k9hlq => first | assumption | omega); (case k9hx0 => first | assumption | decide | (simp only [List.length_cons]; omega)); (case k9hx1 => first | assumption | decide | (simp only [List.length_cons, List.length_nil]; omega)); (case k9hA => rfl); (case k9hroom => walk_at "m_rm"); (case k9hu => walk_at "m_rm"); k_whole); walk_at "t_one_ints_call_202") | (k_here; (with_unfolding_all show wpAny _ _ (call (Value.ref 190) [Value.ref _, Value.int _ _]) _ _ _); (refine' draw_call ?k9S ?k9F ?k9N ?k9U ?k9hi ?k9hD ?k9hm0 ?k9hm1 ?k9hA ?k9hroom ?k9hu ?_; (case k9F => k_asm); (case k9S => assumption); (case k9N => k_asm); (case k9U => k_updF); (case k9hi => assumption); (case k9hD => assumption); (case k9hm0 => first | assumption | omega); (case k9hm1 => first | assumption | omega); (case k9hA => rfl); (case k9hroom => walk_at "m_rm"); (case k9hu => walk_at "m_rm"); k_whole); walk_at "t_draw_call_190") | (k_here; (with_unfolding_all show wpAny _ _ (call (Value.ref 214) [Value.ref _]) _ _ _); (refine' shown_call ?k9S ?k9F ?k9N ?k9hl ?k9hi ?k9hlen ?k9hA ?k9hroom ?_; (case k9F => k_asm); (case k9N => k_asm); (case k9S => assumption); (case k9hl => is_list); (case k9hi => l_ints); (case k9hlen => walk_at "m_rm"); (case k9hA => rfl); (case k9hroom => walk_at "m_rm"); k_whole); walk_at "t_shown_call_214") | (k_here; (with_unfolding_all show wpAny _ _ (call (Value.ref 52) [Value.str _ _, Value.ref _]) _ _ _); (refine' table_call ?k9S ?k9F ?k9N ?k9hA ?k9hroom ?_; (case k9F => k_asm); (case k9S => assumption); (case k9N => k_asm); (case k9hA => rfl); (case k9hroom => walk_at "m_rm"); k_whole); walk_at "t_table_call_52s")) | ((with_reducible show wpAny _ _ (eval (Expr.IfExp _ _ _ _) _) _ _ _); with_reducible (with_reducible refine Stop.go ?_)) | ((with_reducible show wpAny _ _ (execs (_ :: _) _) _ _ _); with_reducible ((with_reducible show wpAny _ _ (execs (Stmt.Assign [Expr.Name (Str.ofString "_law_table") _] _ _ :: _) _) _ _ _); with_reducible refine Stop.go ?_)) | ((with_reducible show wpAny _ _ (subscriptTail _ _ (Value.ref _) (Value.ref _)) _ _ _); with_reducible (k_here; (with_reducible show wpAny _ _ (subscriptTail _ (PySem.Expr.Slice _ _ none _) (Value.ref _) (Value.ref _)) _ _ _); k_dflt (refine' kmk_slice_ints (s := ⟨_, _, _, _, _⟩) ?k9F ?k9N ?k9l ?k9p ?k9q ?k9i ?k9m ?k9c ?_ ?k9s ?k9t ?k9z; (case k9F => k_asm); (case k9N => k_asm); (case k9l => kmk_list); (case k9p => kmk_part); (case k9q => kmk_part); (case k9i => l_ints); (case k9m => first | exact kmk_from (by l_ints) (by omega) | kmk_nums); (case k9c => kmk_len); (case k9s => with_unfolding_all rfl); (case k9t => kmk_pure); (case k9z => kmk_size); k_whole); walk_at "t_kmk_slice_ints")) | ((with_reducible show wpAny _ _ (exec (Stmt.While _ _ _ _) _) _ _ _); with_reducible (with_reducible refine Stop.go ?_))) | walk1 | (dsimp only; walk1) | (leave1; (try dsimp only)))
      refine Stop.go ?_
      (try dsimp only)
      k_dflt (refine' kmk_add_ints ?F ?N ?a ?b ?i ?j ?_ ?zz)
      case F => k_asm
      case N => k_asm
      case a => kmk_list
      case b => kmk_list
      case i => l_ints
      case j => l_ints
      case zz => rw [sizeLine_eq]; omega
      intro Dp wsp _ FD ND lp hIp
      k_lt lp
      (try dsimp only)
      k_sweep
      repeat' (first | (k_unfold; (try dsimp only)) | (k_end; kc_close) | (first | ((with_reducible show wpAny _ _ (binaryOp _ (Value.ref _) (Value.ref _)) _ _ _); with_reducible (with_reducible refine Stop.go ?_)) | ((with_reducible show wpAny _ _ (eval (Expr.ListComp _ _ _ _) _) _ _ _); with_reducible (with_reducible refine Stop.go ?_)) | ((with_reducible show wpAny _ _ (call (Value.ref _) _ _) _ _ _); first | ((with_unfolding_all show wpAny _ _ (call (Value.ref 183) [Value.ref _, Value.ref _]) _ _ _); with_reducible refine Stop.go ?_) | ((with_unfolding_all show wpAny _ _ (call (Value.ref 219) [Value.ref _]) _ _ _); with_reducible refine Stop.go ?_) | ((with_unfolding_all show wpAny _ _ (call (Value.ref 106) [Value.ref _]) _ _ _); with_reducible refine Stop.go ?_) | ((with_unfolding_all show wpAny _ _ (call (Value.ref 238) [Value.ref _]) _ _ _); with_reducible refine Stop.go ?_) | ((with_unfolding_all show wpAny _ _ (call (Value.ref 250) [Value.ref _, Value.ref _, Value.ref _]) _ _ _); with_reducible refine Stop.go ?_) | ((with_unfolding_all show wpAny _ _ (call (Value.ref 207) [Value.ref _, Value.str _ _, Value.int _ _]) _ _ _); with_reducible refine Stop.go ?_) | ((with_unfolding_all show wpAny _ _ (call (Value.ref 195) [Value.ref _]) _ _ _); with_reducible refine Stop.go ?_) | (k_here; (with_unfolding_all show wpAny _ _ (call (Value.ref 202) [Value.ref _, Value.ref _]) _ _ _); (refine' one_ints_call ?k9S ?k9F ?k9N ?k9U ?k9hi ?k9hD ?k9hq ?k9hz ?k9hlq ?k9hx0 ?k9hx1 ?k9hA ?k9hroom ?k9hu ?_; (case k9F => k_asm); (case k9S => assumption); (case k9N => k_asm); (case k9U => k_updF); (case k9hi => assumption); (case k9hD => assumption); (case k9hq => is_list); (case k9hz => l_ints); (case k9hlq => first | assumption | omega); (case k9hx0 => first | assumption | decide | (simp only [List.length_cons]; omega)); (case k9hx1 => first | assumption | decide | (simp only [List.length_cons, List.length_nil]; omega)); (case k9hA => rfl); (case k9hroom => walk_at "m_rm"); (case k9hu => walk_at "m_rm"); k_whole); walk_at "t_one_ints_call_202") | (k_here; (with_unfolding_all show wpAny _ _ (call (Value.ref 190) [Value.ref _, Value.int _ _]) _ _ _); (refine' draw_call ?k9S ?k9F ?k9N ?k9U ?k9hi ?k9hD ?k9hm0 ?k9hm1 ?k9hA ?k9hroom ?k9hu ?_; (case k9F => k_asm); (case k9S => assumption); (case k9N => k_asm); (case k9U => k_updF); (case k9hi => assumption); (case k9hD => assumption); (case k9hm0 => first | assumption | omega); (case k9hm1 => first | assumption | omega); (case k9hA => rfl); (case k9hroom => walk_at "m_rm"); (case k9hu => walk_at "m_rm"); k_whole); walk_at "t_draw_call_190") | (k_here; (with_unfolding_all show wpAny _ _ (call (Value.ref 214) [Value.ref _]) _ _ _); (refine' shown_call ?k9S ?k9F ?k9N ?k9hl ?k9hi ?k9hlen ?k9hA ?k9hroom ?_; (case k9F => k_asm); (case k9N => k_asm); (case k9S => assumption); (case k9hl => is_list); (case k9hi => l_ints); (case k9hlen => walk_at "m_rm"); (case k9hA => rfl); (case k9hroom => walk_at "m_rm"); k_whole); walk_at "t_shown_call_214") | (k_here; (with_unfolding_all show wpAny _ _ (call (Value.ref 52) [Value.str _ _, Value.ref _]) _ _ _); (refine' table_call ?k9S ?k9F ?k9N ?k9hA ?k9hroom ?_; (case k9F => k_asm); (case k9S => assumption); (case k9N => k_asm); (case k9hA => rfl); (case k9hroom => walk_at "m_rm"); k_whole); walk_at "t_table_call_52s")) | ((with_reducible show wpAny _ _ (eval (Expr.IfExp _ _ _ _) _) _ _ _); with_reducible (with_reducible refine Stop.go ?_)) | ((with_reducible show wpAny _ _ (execs (_ :: _) _) _ _ _); with_reducible ((with_reducible show wpAny _ _ (execs (Stmt.Assign [Expr.Name (Str.ofString "_law_table") _] _ _ :: _) _) _ _ _); with_reducible refine Stop.go ?_)) | ((with_reducible show wpAny _ _ (subscriptTail _ _ (Value.ref _) (Value.ref _)) _ _ _); with_reducible (k_here; (with_reducible show wpAny _ _ (subscriptTail _ (PySem.Expr.Slice _ _ none _) (Value.ref _) (Value.ref _)) _ _ _); k_dflt (refine' kmk_slice_ints (s := ⟨_, _, _, _, _⟩) ?k9F ?k9N ?k9l ?k9p ?k9q ?k9i ?k9m ?k9c ?_ ?k9s ?k9t ?k9z; (case k9F => k_asm); (case k9N => k_asm); (case k9l => kmk_list); (case k9p => kmk_part); (case k9q => kmk_part); (case k9i => l_ints); (case k9m => first | exact kmk_from (by l_ints) (by omega) | kmk_nums); (case k9c => kmk_len); (case k9s => with_unfolding_all rfl); (case k9t => kmk_pure); (case k9z => kmk_size); k_whole); walk_at "t_kmk_slice_ints")) | ((with_reducible show wpAny _ _ (exec (Stmt.While _ _ _ _) _) _ _ _); with_reducible (with_reducible refine Stop.go ?_))) | walk1 | (dsimp only; walk1) | (leave1; (try dsimp only)))
      rename Fr _ _ _ _ => FE
      rename News _ _ _ _ => NE
      refine Stop.go (k _ _ _ Dp wsp 0 _ vsA nsA nA FE m1 m2 rfl (News.sub NE (by walk_at "m_allIn")) (Nat.ne_of_lt lp.2.2.1) (Nat.ne_of_lt lp.2.2.2.1) (Nat.ne_of_lt lp.2.2.2.2) hIp ?_ ?_ hiA hDA)
      · rw [List.length_append, List.length_append, List.length_take, List.length_drop]; exact spLen da0 x0 hcl hzl
      · intro c hc
        rcases List.mem_append.mp hc with hc | hc
        · rcases List.mem_append.mp hc with hc | hc
          · exact .inl (List.mem_of_mem_take hc)
          · exact .inr (hzc c hc)
        · exact .inl (List.mem_of_mem_drop hc)
set_option maxHeartbeats 8000000 in
theorem turn2 {Dp : Addr} {vp : List Value} {np : Nat} {sp : List Int} (S : Sx w mean mg mb g) (F : Fr g L s.heap m) (N : News g L s.heap [(Dp, listOf (List.toArray vp) np), (I, oI), (D3, LCg.lst ys), (D, listOf (List.toArray vs) n)])
    (m1 : m (Str.ofString "_law_deck") = some (.ref D)) (m2 : m (Str.ofString "_law_codes") = some (.ref D3)) (m3 : m (Str.ofString "_law_spoilt") = some (.ref Dp))
    (z1 : @Ne Nat I Dp) (z2 : @Ne Nat D3 Dp) (z3 : @Ne Nat D Dp) (hip : IntsAre vp sp) (hlp : sp.length ≤ 120) (hcp : ∀ c ∈ sp, 0 ≤ c ∧ c < 1000000) (hdp : dp + 500 < recursionLimit) (hun : un ≤ 100)
    (k : ∀ h' tk m', Fr g L h' m' → m' (Str.ofString "_law_deck") = some (.ref D) → m' (Str.ofString "_law_codes") = some (.ref D3) → News g L h' [(I, oI), (D3, LCg.lst ys), (D, listOf (List.toArray vs) n)] → Q .next { s with heap := h', toks := tk }) :
    wpAny (model PySem.Challenge.rw_on0064_01.row.prog w) ((⟨none, dp, some [], gd, un⟩ : Around).deeper (envOf (Str.ofString "law") lawScope L fa cd)) (execs turnRest (envOf (Str.ofString "law") lawScope L fa cd)) Q E s := by
  (have KX9 : Fill Mine.hd.heap_39 PySem.Challenge.rw_on0064_01 := (by k_fill; exact trivial); clear KX9)
  have X := S.X
  have T := S.T
  conv in turnRest => whnf
  conv in (occs := *) lawScope => all_goals whnf
  refine wpAny_execs_cons ?_
  repeat' (first | (k_unfold; (try dsimp only)) | (k_end; kc_close) | (first | ((with_reducible show wpAny _ _ (binaryOp _ (Value.ref _) (Value.ref _)) _ _ _); with_reducible (with_reducible refine Stop.go ?_)) | ((with_reducible show wpAny _ _ (eval (Expr.ListComp _ _ _ _) _) _ _ _); with_reducible (with_reducible refine Stop.go ?_)) | ((with_reducible show wpAny _ _ (call (Value.ref _) _ _) _ _ _); first | ((with_unfolding_all show wpAny _ _ (call (Value.ref 183) [Value.ref _, Value.ref _]) _ _ _); with_reducible refine Stop.go ?_) | ((with_unfolding_all show wpAny _ _ (call (Value.ref 219) [Value.ref _]) _ _ _); with_reducible refine Stop.go ?_) | ((with_unfolding_all show wpAny _ _ (call (Value.ref 106) [Value.ref _]) _ _ _); with_reducible refine Stop.go ?_) | ((with_unfolding_all show wpAny _ _ (call (Value.ref 238) [Value.ref _]) _ _ _); with_reducible refine Stop.go ?_) | ((with_unfolding_all show wpAny _ _ (call (Value.ref 250) [Value.ref _, Value.ref _, Value.ref _]) _ _ _); with_reducible refine Stop.go ?_) | ((with_unfolding_all show wpAny _ _ (call (Value.ref 207) [Value.ref _, Value.str _ _, Value.int _ _]) _ _ _); with_reducible refine Stop.go ?_) | ((with_unfolding_all show wpAny _ _ (call (Value.ref 195) [Value.ref _]) _ _ _); with_reducible refine Stop.go ?_) | (k_here; (with_unfolding_all show wpAny _ _ (call (Value.ref 202) [Value.ref _, Value.ref _]) _ _ _); (refine' one_ints_call ?k9S ?k9F ?k9N ?k9U ?k9hi ?k9hD ?k9hq ?k9hz ?k9hlq ?k9hx0 ?k9hx1 ?k9hA ?k9hroom ?k9hu ?_; (case k9F => k_asm); (case k9S => assumption); (case k9N => k_asm); (case k9U => k_updF); (case k9hi => assumption); (case k9hD => assumption); (case k9hq => is_list); (case k9hz => l_ints); (case k9hlq => first | assumption | omega); (case k9hx0 => first | assumption | decide | (simp only [List.length_cons]; omega)); (case k9hx1 => first | assumption | decide | (simp only [List.length_cons, List.length_nil]; omega)); (case k9hA => rfl); (case k9hroom => walk_at "m_rm"); (case k9hu => walk_at "m_rm"); k_whole); walk_at "t_one_ints_call_202") | (k_here; (with_unfolding_all show wpAny _ _ (call (Value.ref 190) [Value.ref _, Value.int _ _]) _ _ _); (refine' draw_call ?k9S ?k9F ?k9N ?k9U ?k9hi ?k9hD ?k9hm0 ?k9hm1 ?k9hA ?k9hroom ?k9hu ?_; (case k9F => k_asm); (case k9S => assumption); (case k9N => k_asm); (case k9U => k_updF); (case k9hi => assumption); (case k9hD => assumption); (case k9hm0 => first | assumption | omega); (case k9hm1 => first | assumption | omega); (case k9hA => rfl); (case k9hroom => walk_at "m_rm"); (case k9hu => walk_at "m_rm"); k_whole); walk_at "t_draw_call_190") | (k_here; (with_unfolding_all show wpAny _ _ (call (Value.ref 214) [Value.ref _]) _ _ _); (refine' shown_call ?k9S ?k9F ?k9N ?k9hl ?k9hi ?k9hlen ?k9hA ?k9hroom ?_; (case k9F => k_asm); (case k9N => k_asm); (case k9S => assumption); (case k9hl => is_list); (case k9hi => l_ints); (case k9hlen => walk_at "m_rm"); (case k9hA => rfl); (case k9hroom => walk_at "m_rm"); k_whole); walk_at "t_shown_call_214") | (k_here; (with_unfolding_all show wpAny _ _ (call (Value.ref 52) [Value.str _ _, Value.ref _]) _ _ _); (refine' table_call ?k9S ?k9F ?k9N ?k9hA ?k9hroom ?_; (case k9F => k_asm); (case k9S => assumption); (case k9N => k_asm); (case k9hA => rfl); (case k9hroom => walk_at "m_rm"); k_whole); walk_at "t_table_call_52s")) | ((with_reducible show wpAny _ _ (eval (Expr.IfExp _ _ _ _) _) _ _ _); with_reducible (with_reducible refine Stop.go ?_)) | ((with_reducible show wpAny _ _ (execs (_ :: _) _) _ _ _); with_reducible ((with_reducible show wpAny _ _ (execs (Stmt.Assign [Expr.Name (Str.ofString "_law_table") _] _ _ :: _) _) _ _ _); with_reducible refine Stop.go ?_)) | ((with_reducible show wpAny _ _ (subscriptTail _ _ (Value.ref _) (Value.ref _)) _ _ _); with_reducible (k_here; (with_reducible show wpAny _ _ (subscriptTail _ (PySem.Expr.Slice _ _ none _) (Value.ref _) (Value.ref _)) _ _ _); k_dflt (refine' kmk_slice_ints (s := ⟨_, _, _, _, _⟩) ?k9F ?k9N ?k9l ?k9p ?k9q ?k9i ?k9m ?k9c ?_ ?k9s ?k9t ?k9z; (case k9F => k_asm); (case k9N => k_asm); (case k9l => kmk_list); (case k9p => kmk_part); (case k9q => kmk_part); (case k9i => l_ints); (case k9m => first | exact kmk_from (by l_ints) (by omega) | kmk_nums); (case k9c => kmk_len); (case k9s => with_unfolding_all rfl); (case k9t => kmk_pure); (case k9z => kmk_size); k_whole); walk_at "t_kmk_slice_ints")) | ((with_reducible show wpAny _ _ (exec (Stmt.While _ _ _ _) _) _ _ _); with_reducible (with_reducible refine Stop.go ?_))) | walk1 | (dsimp only; walk1) | (leave1; (try dsimp only)))
  rename_i la _ lla ax adx en t1 t2 t3 t4 oE _ _ l3 lo hs llb l2 l4 _ lw9 _ llw lt9 _ llt tp _ FA NA ltp
  refine Stop.go (row_call S FA NA (en := e1) ⟨lw9, lt9, _, 0, [.int 120 _], 0, [.int 121 _], 0, .head _, mm2, .cons _ _ .nil, mm1, .cons _ _ .nil⟩ e1_ok rfl (by dsimp only [Around.deeper]; omega) ?_)
  intro Dr vr nr h1 tk1 hneR FB NB hiR hlR
  clear FA NA
  have hneR4 := hneR.2.2.2.1
  have hneR4 : @Ne Nat en Dr := hneR4
  clear hneR
  (try dsimp only)
  repeat' (first | (k_unfold; (try dsimp only)) | (k_end; kc_close) | (first | ((with_reducible show wpAny _ _ (binaryOp _ (Value.ref _) (Value.ref _)) _ _ _); with_reducible (with_reducible refine Stop.go ?_)) | ((with_reducible show wpAny _ _ (eval (Expr.ListComp _ _ _ _) _) _ _ _); with_reducible (with_reducible refine Stop.go ?_)) | ((with_reducible show wpAny _ _ (call (Value.ref _) _ _) _ _ _); first | ((with_unfolding_all show wpAny _ _ (call (Value.ref 183) [Value.ref _, Value.ref _]) _ _ _); with_reducible refine Stop.go ?_) | ((with_unfolding_all show wpAny _ _ (call (Value.ref 219) [Value.ref _]) _ _ _); with_reducible refine Stop.go ?_) | ((with_unfolding_all show wpAny _ _ (call (Value.ref 106) [Value.ref _]) _ _ _); with_reducible refine Stop.go ?_) | ((with_unfolding_all show wpAny _ _ (call (Value.ref 238) [Value.ref _]) _ _ _); with_reducible refine Stop.go ?_) | ((with_unfolding_all show wpAny _ _ (call (Value.ref 250) [Value.ref _, Value.ref _, Value.ref _]) _ _ _); with_reducible refine Stop.go ?_) | ((with_unfolding_all show wpAny _ _ (call (Value.ref 207) [Value.ref _, Value.str _ _, Value.int _ _]) _ _ _); with_reducible refine Stop.go ?_) | ((with_unfolding_all show wpAny _ _ (call (Value.ref 195) [Value.ref _]) _ _ _); with_reducible refine Stop.go ?_) | (k_here; (with_unfolding_all show wpAny _ _ (call (Value.ref 202) [Value.ref _, Value.ref _]) _ _ _); (refine' one_ints_call ?k9S ?k9F ?k9N ?k9U ?k9hi ?k9hD ?k9hq ?k9hz ?k9hlq ?k9hx0 ?k9hx1 ?k9hA ?k9hroom ?k9hu ?_; (case k9F => k_asm); (case k9S => assumption); (case k9N => k_asm); (case k9U => k_updF); (case k9hi => assumption); (case k9hD => assumption); (case k9hq => is_list); (case k9hz => l_ints); (case k9hlq => first | assumption | omega); (case k9hx0 => first | assumption | decide | (simp only [List.length_cons]; omega)); (case k9hx1 => first | assumption | decide | (simp only [List.length_cons, List.length_nil]; omega)); (case k9hA => rfl); (case k9hroom => walk_at "m_rm"); (case k9hu => walk_at "m_rm"); k_whole); walk_at "t_one_ints_call_202") | (k_here; (with_unfolding_all show wpAny _ _ (call (Value.ref 190) [Value.ref _, Value.int _ _]) _ _ _); (refine' draw_call ?k9S ?k9F ?k9N ?k9U ?k9hi ?k9hD ?k9hm0 ?k9hm1 ?k9hA ?k9hroom ?k9hu ?_; (case k9F => k_asm); (case k9S => assumption); (case k9N => k_asm); (case k9U => k_updF); (case k9hi => assumption); (case k9hD => assumption); (case k9hm0 => first | assumption | omega); (case k9hm1 => first | assumption | omega); (case k9hA => rfl); (case k9hroom => walk_at "m_rm"); (case k9hu => walk_at "m_rm"); k_whole); walk_at "t_draw_call_190") | (k_here; (with_unfolding_all show wpAny _ _ (call (Value.ref 214) [Value.ref _]) _ _ _); (refine' shown_call ?k9S ?k9F ?k9N ?k9hl ?k9hi ?k9hlen ?k9hA ?k9hroom ?_; (case k9F => k_asm); (case k9N => k_asm); (case k9S => assumption); (case k9hl => is_list); (case k9hi => l_ints); (case k9hlen => walk_at "m_rm"); (case k9hA => rfl); (case k9hroom => walk_at "m_rm"); k_whole); walk_at "t_shown_call_214") | (k_here; (with_unfolding_all show wpAny _ _ (call (Value.ref 52) [Value.str _ _, Value.ref _]) _ _ _); (refine' table_call ?k9S ?k9F ?k9N ?k9hA ?k9hroom ?_; (case k9F => k_asm); (case k9S => assumption); (case k9N => k_asm); (case k9hA => rfl); (case k9hroom => walk_at "m_rm"); k_whole); walk_at "t_table_call_52s")) | ((with_reducible show wpAny _ _ (eval (Expr.IfExp _ _ _ _) _) _ _ _); with_reducible (with_reducible refine Stop.go ?_)) | ((with_reducible show wpAny _ _ (execs (_ :: _) _) _ _ _); with_reducible ((with_reducible show wpAny _ _ (execs (Stmt.Assign [Expr.Name (Str.ofString "_law_table") _] _ _ :: _) _) _ _ _); with_reducible refine Stop.go ?_)) | ((with_reducible show wpAny _ _ (subscriptTail _ _ (Value.ref _) (Value.ref _)) _ _ _); with_reducible (k_here; (with_reducible show wpAny _ _ (subscriptTail _ (PySem.Expr.Slice _ _ none _) (Value.ref _) (Value.ref _)) _ _ _); k_dflt (refine' kmk_slice_ints (s := ⟨_, _, _, _, _⟩) ?k9F ?k9N ?k9l ?k9p ?k9q ?k9i ?k9m ?k9c ?_ ?k9s ?k9t ?k9z; (case k9F => k_asm); (case k9N => k_asm); (case k9l => kmk_list); (case k9p => kmk_part); (case k9q => kmk_part); (case k9i => l_ints); (case k9m => first | exact kmk_from (by l_ints) (by omega) | kmk_nums); (case k9c => kmk_len); (case k9s => with_unfolding_all rfl); (case k9t => kmk_pure); (case k9z => kmk_size); k_whole); walk_at "t_kmk_slice_ints")) | ((with_reducible show wpAny _ _ (exec (Stmt.While _ _ _ _) _) _ _ _); with_reducible (with_reducible refine Stop.go ?_))) | walk1 | (dsimp only; walk1) | (leave1; (try dsimp only)))
  have en1 : @Ne Nat Dp en := l4.2.1
  have en2 : @Ne Nat I en := l4.2.2.1
  have en3 : @Ne Nat D3 en := l4.2.2.2.1
  have en4 : @Ne Nat D en := l4.2.2.2.2
  refine Stop.go (read_call S FB NB mm4 mm5 mm6 (.head _) hs lo l3.2 hiR (by rw [e1_len]; omega) e1_codes (by simp) e1_ents rfl rfl (by omega) (by omega) ?_)
  intro h2 tk2 t9 oE2 vs2 ex2 FC hE2 hab2 hx2 hN2
  obtain ⟨v2, rfl⟩ := List.length_eq_one_iff.mp (show vs2.length = 1 from AbsIn.length hab2)
  have NC := hN2 [(ax, tbObj adx), (adx, tbDict w.params (Str.ofString "b") la en s.toks t1 t2 t3 t4), (Dp, listOf (List.toArray vp) np), (I, oI), (D3, LCg.lst ys), (D, listOf (List.toArray vs) n)] (allP ⟨mm5, l3.1⟩ (allP ⟨mm6, l3.2⟩ (allP ⟨mm8, en1⟩ (allP ⟨mm9, en2⟩ (allP ⟨mm10, en3⟩ (allP ⟨mm11, en4⟩ allP_nil))))))
  have hxe : ∀ p ∈ ex2, p.1 ≠ en := fun p hp => (hx2 p hp).1
  have hE3 : oE2.IsDictOf (PySem.strKind PySem.Challenge.rw_on0064_01.row.prog w) [(keyF [120], v2)] := hE2
  clear hN2 hx2 hE2 NB FB
  clear hiR hlR
  simp only [List.cons_append, List.nil_append] at NC
  have l34 := l3
  clear lla llb llw llt ltp l4 hneR4 l2 l3
  have l3 : @Ne Nat ax en ∧ @Ne Nat adx en := l34
  (try dsimp only)
  repeat' (first | (k_unfold; (try dsimp only)) | (k_end; kc_close) | (first | ((with_reducible show wpAny _ _ (binaryOp _ (Value.ref _) (Value.ref _)) _ _ _); with_reducible (with_reducible refine Stop.go ?_)) | ((with_reducible show wpAny _ _ (eval (Expr.ListComp _ _ _ _) _) _ _ _); with_reducible (with_reducible refine Stop.go ?_)) | ((with_reducible show wpAny _ _ (call (Value.ref _) _ _) _ _ _); first | ((with_unfolding_all show wpAny _ _ (call (Value.ref 183) [Value.ref _, Value.ref _]) _ _ _); with_reducible refine Stop.go ?_) | ((with_unfolding_all show wpAny _ _ (call (Value.ref 219) [Value.ref _]) _ _ _); with_reducible refine Stop.go ?_) | ((with_unfolding_all show wpAny _ _ (call (Value.ref 106) [Value.ref _]) _ _ _); with_reducible refine Stop.go ?_) | ((with_unfolding_all show wpAny _ _ (call (Value.ref 238) [Value.ref _]) _ _ _); with_reducible refine Stop.go ?_) | ((with_unfolding_all show wpAny _ _ (call (Value.ref 250) [Value.ref _, Value.ref _, Value.ref _]) _ _ _); with_reducible refine Stop.go ?_) | ((with_unfolding_all show wpAny _ _ (call (Value.ref 207) [Value.ref _, Value.str _ _, Value.int _ _]) _ _ _); with_reducible refine Stop.go ?_) | ((with_unfolding_all show wpAny _ _ (call (Value.ref 195) [Value.ref _]) _ _ _); with_reducible refine Stop.go ?_) | (k_here; (with_unfolding_all show wpAny _ _ (call (Value.ref 202) [Value.ref _, Value.ref _]) _ _ _); (refine' one_ints_call ?k9S ?k9F ?k9N ?k9U ?k9hi ?k9hD ?k9hq ?k9hz ?k9hlq ?k9hx0 ?k9hx1 ?k9hA ?k9hroom ?k9hu ?_; (case k9F => k_asm); (case k9S => assumption); (case k9N => k_asm); (case k9U => k_updF); (case k9hi => assumption); (case k9hD => assumption); (case k9hq => is_list); (case k9hz => l_ints); (case k9hlq => first | assumption | omega); (case k9hx0 => first | assumption | decide | (simp only [List.length_cons]; omega)); (case k9hx1 => first | assumption | decide | (simp only [List.length_cons, List.length_nil]; omega)); (case k9hA => rfl); (case k9hroom => walk_at "m_rm"); (case k9hu => walk_at "m_rm"); k_whole); walk_at "t_one_ints_call_202") | (k_here; (with_unfolding_all show wpAny _ _ (call (Value.ref 190) [Value.ref _, Value.int _ _]) _ _ _); (refine' draw_call ?k9S ?k9F ?k9N ?k9U ?k9hi ?k9hD ?k9hm0 ?k9hm1 ?k9hA ?k9hroom ?k9hu ?_; (case k9F => k_asm); (case k9S => assumption); (case k9N => k_asm); (case k9U => k_updF); (case k9hi => assumption); (case k9hD => assumption); (case k9hm0 => first | assumption | omega); (case k9hm1 => first | assumption | omega); (case k9hA => rfl); (case k9hroom => walk_at "m_rm"); (case k9hu => walk_at "m_rm"); k_whole); walk_at "t_draw_call_190") | (k_here; (with_unfolding_all show wpAny _ _ (call (Value.ref 214) [Value.ref _]) _ _ _); (refine' shown_call ?k9S ?k9F ?k9N ?k9hl ?k9hi ?k9hlen ?k9hA ?k9hroom ?_; (case k9F => k_asm); (case k9N => k_asm); (case k9S => assumption); (case k9hl => is_list); (case k9hi => l_ints); (case k9hlen => walk_at "m_rm"); (case k9hA => rfl); (case k9hroom => walk_at "m_rm"); k_whole); walk_at "t_shown_call_214") | (k_here; (with_unfolding_all show wpAny _ _ (call (Value.ref 52) [Value.str _ _, Value.ref _]) _ _ _); (refine' table_call ?k9S ?k9F ?k9N ?k9hA ?k9hroom ?_; (case k9F => k_asm); (case k9S => assumption); (case k9N => k_asm); (case k9hA => rfl); (case k9hroom => walk_at "m_rm"); k_whole); walk_at "t_table_call_52s")) | ((with_reducible show wpAny _ _ (eval (Expr.IfExp _ _ _ _) _) _ _ _); with_reducible (with_reducible refine Stop.go ?_)) | ((with_reducible show wpAny _ _ (execs (_ :: _) _) _ _ _); with_reducible ((with_reducible show wpAny _ _ (execs (Stmt.Assign [Expr.Name (Str.ofString "_law_table") _] _ _ :: _) _) _ _ _); with_reducible refine Stop.go ?_)) | ((with_reducible show wpAny _ _ (subscriptTail _ _ (Value.ref _) (Value.ref _)) _ _ _); with_reducible (k_here; (with_reducible show wpAny _ _ (subscriptTail _ (PySem.Expr.Slice _ _ none _) (Value.ref _) (Value.ref _)) _ _ _); k_dflt (refine' kmk_slice_ints (s := ⟨_, _, _, _, _⟩) ?k9F ?k9N ?k9l ?k9p ?k9q ?k9i ?k9m ?k9c ?_ ?k9s ?k9t ?k9z; (case k9F => k_asm); (case k9N => k_asm); (case k9l => kmk_list); (case k9p => kmk_part); (case k9q => kmk_part); (case k9i => l_ints); (case k9m => first | exact kmk_from (by l_ints) (by omega) | kmk_nums); (case k9c => kmk_len); (case k9s => with_unfolding_all rfl); (case k9t => kmk_pure); (case k9z => kmk_size); k_whole); walk_at "t_kmk_slice_ints")) | ((with_reducible show wpAny _ _ (exec (Stmt.While _ _ _ _) _) _ _ _); with_reducible (with_reducible refine Stop.go ?_))) | walk1 | (dsimp only; walk1) | (leave1; (try dsimp only)))
  refine Stop.go (lents_call S FC NC (NC.isList mm3) hip (by omega) hcp rfl (by dsimp only [Around.deeper]; omega) (by dsimp only [Around.deeper]; omega) ?_ ?_)
  · intro hq h3 tk3 FD ND
    clear FC NC
    (try dsimp only)
    repeat' (first | (k_unfold; (try dsimp only)) | (k_end; kc_close) | (first | ((with_reducible show wpAny _ _ (binaryOp _ (Value.ref _) (Value.ref _)) _ _ _); with_reducible (with_reducible refine Stop.go ?_)) | ((with_reducible show wpAny _ _ (eval (Expr.ListComp _ _ _ _) _) _ _ _); with_reducible (with_reducible refine Stop.go ?_)) | ((with_reducible show wpAny _ _ (call (Value.ref _) _ _) _ _ _); first | ((with_unfolding_all show wpAny _ _ (call (Value.ref 183) [Value.ref _, Value.ref _]) _ _ _); with_reducible refine Stop.go ?_) | ((with_unfolding_all show wpAny _ _ (call (Value.ref 219) [Value.ref _]) _ _ _); with_reducible refine Stop.go ?_) | ((with_unfolding_all show wpAny _ _ (call (Value.ref 106) [Value.ref _]) _ _ _); with_reducible refine Stop.go ?_) | ((with_unfolding_all show wpAny _ _ (call (Value.ref 238) [Value.ref _]) _ _ _); with_reducible refine Stop.go ?_) | ((with_unfolding_all show wpAny _ _ (call (Value.ref 250) [Value.ref _, Value.ref _, Value.ref _]) _ _ _); with_reducible refine Stop.go ?_) | ((with_unfolding_all show wpAny _ _ (call (Value.ref 207) [Value.ref _, Value.str _ _, Value.int _ _]) _ _ _); with_reducible refine Stop.go ?_) | ((with_unfolding_all show wpAny _ _ (call (Value.ref 195) [Value.ref _]) _ _ _); with_reducible refine Stop.go ?_) | (k_here; (with_unfolding_all show wpAny _ _ (call (Value.ref 202) [Value.ref _, Value.ref _]) _ _ _); (refine' one_ints_call ?k9S ?k9F ?k9N ?k9U ?k9hi ?k9hD ?k9hq ?k9hz ?k9hlq ?k9hx0 ?k9hx1 ?k9hA ?k9hroom ?k9hu ?_; (case k9F => k_asm); (case k9S => assumption); (case k9N => k_asm); (case k9U => k_updF); (case k9hi => assumption); (case k9hD => assumption); (case k9hq => is_list); (case k9hz => l_ints); (case k9hlq => first | assumption | omega); (case k9hx0 => first | assumption | decide | (simp only [List.length_cons]; omega)); (case k9hx1 => first | assumption | decide | (simp only [List.length_cons, List.length_nil]; omega)); (case k9hA => rfl); (case k9hroom => walk_at "m_rm"); (case k9hu => walk_at "m_rm"); k_whole); walk_at "t_one_ints_call_202") | (k_here; (with_unfolding_all show wpAny _ _ (call (Value.ref 190) [Value.ref _, Value.int _ _]) _ _ _); (refine' draw_call ?k9S ?k9F ?k9N ?k9U ?k9hi ?k9hD ?k9hm0 ?k9hm1 ?k9hA ?k9hroom ?k9hu ?_; (case k9F => k_asm); (case k9S => assumption); (case k9N => k_asm); (case k9U => k_updF); (case k9hi => assumption); (case k9hD => assumption); (case k9hm0 => first | assumption | omega); (case k9hm1 => first | assumption | omega); (case k9hA => rfl); (case k9hroom => walk_at "m_rm"); (case k9hu => walk_at "m_rm"); k_whole); walk_at "t_draw_call_190") | (k_here; (with_unfolding_all show wpAny _ _ (call (Value.ref 214) [Value.ref _]) _ _ _); (refine' shown_call ?k9S ?k9F ?k9N ?k9hl ?k9hi ?k9hlen ?k9hA ?k9hroom ?_; (case k9F => k_asm); (case k9N => k_asm); (case k9S => assumption); (case k9hl => is_list); (case k9hi => l_ints); (case k9hlen => walk_at "m_rm"); (case k9hA => rfl); (case k9hroom => walk_at "m_rm"); k_whole); walk_at "t_shown_call_214") | (k_here; (with_unfolding_all show wpAny _ _ (call (Value.ref 52) [Value.str _ _, Value.ref _]) _ _ _); (refine' table_call ?k9S ?k9F ?k9N ?k9hA ?k9hroom ?_; (case k9F => k_asm); (case k9S => assumption); (case k9N => k_asm); (case k9hA => rfl); (case k9hroom => walk_at "m_rm"); k_whole); walk_at "t_table_call_52s")) | ((with_reducible show wpAny _ _ (eval (Expr.IfExp _ _ _ _) _) _ _ _); with_reducible (with_reducible refine Stop.go ?_)) | ((with_reducible show wpAny _ _ (execs (_ :: _) _) _ _ _); with_reducible ((with_reducible show wpAny _ _ (execs (Stmt.Assign [Expr.Name (Str.ofString "_law_table") _] _ _ :: _) _) _ _ _); with_reducible refine Stop.go ?_)) | ((with_reducible show wpAny _ _ (subscriptTail _ _ (Value.ref _) (Value.ref _)) _ _ _); with_reducible (k_here; (with_reducible show wpAny _ _ (subscriptTail _ (PySem.Expr.Slice _ _ none _) (Value.ref _) (Value.ref _)) _ _ _); k_dflt (refine' kmk_slice_ints (s := ⟨_, _, _, _, _⟩) ?k9F ?k9N ?k9l ?k9p ?k9q ?k9i ?k9m ?k9c ?_ ?k9s ?k9t ?k9z; (case k9F => k_asm); (case k9N => k_asm); (case k9l => kmk_list); (case k9p => kmk_part); (case k9q => kmk_part); (case k9i => l_ints); (case k9m => first | exact kmk_from (by l_ints) (by omega) | kmk_nums); (case k9c => kmk_len); (case k9s => with_unfolding_all rfl); (case k9t => kmk_pure); (case k9z => kmk_size); k_whole); walk_at "t_kmk_slice_ints")) | ((with_reducible show wpAny _ _ (exec (Stmt.While _ _ _ _) _) _ _ _); with_reducible (with_reducible refine Stop.go ?_))) | walk1 | (dsimp only; walk1) | (leave1; (try dsimp only)))
    rename Fr _ _ _ _ => FD
    rename News _ _ _ _ => ND
    refine Stop.go (ttext_call (ex := ex2) (es := [e1]) S FD ND (.head _) mm1 mm2 (fun p hp => tt7 hp) hE3 lo hab2 (by simp [e1_ok]) (by simp) rfl (by dsimp only [Around.deeper]; omega) (by dsimp only [Around.deeper]; omega) ?_)
    intro Db vb nb h4 tk4 hneb FE NE hib hlb
    have b1 : @Ne Nat en Db := hneb.1
    clear FD ND hneb
    (try dsimp only)
    repeat' (first | (k_unfold; (try dsimp only)) | (k_end; kc_close) | (first | ((with_reducible show wpAny _ _ (binaryOp _ (Value.ref _) (Value.ref _)) _ _ _); with_reducible (with_reducible refine Stop.go ?_)) | ((with_reducible show wpAny _ _ (eval (Expr.ListComp _ _ _ _) _) _ _ _); with_reducible (with_reducible refine Stop.go ?_)) | ((with_reducible show wpAny _ _ (call (Value.ref _) _ _) _ _ _); first | ((with_unfolding_all show wpAny _ _ (call (Value.ref 183) [Value.ref _, Value.ref _]) _ _ _); with_reducible refine Stop.go ?_) | ((with_unfolding_all show wpAny _ _ (call (Value.ref 219) [Value.ref _]) _ _ _); with_reducible refine Stop.go ?_) | ((with_unfolding_all show wpAny _ _ (call (Value.ref 106) [Value.ref _]) _ _ _); with_reducible refine Stop.go ?_) | ((with_unfolding_all show wpAny _ _ (call (Value.ref 238) [Value.ref _]) _ _ _); with_reducible refine Stop.go ?_) | ((with_unfolding_all show wpAny _ _ (call (Value.ref 250) [Value.ref _, Value.ref _, Value.ref _]) _ _ _); with_reducible refine Stop.go ?_) | ((with_unfolding_all show wpAny _ _ (call (Value.ref 207) [Value.ref _, Value.str _ _, Value.int _ _]) _ _ _); with_reducible refine Stop.go ?_) | ((with_unfolding_all show wpAny _ _ (call (Value.ref 195) [Value.ref _]) _ _ _); with_reducible refine Stop.go ?_) | (k_here; (with_unfolding_all show wpAny _ _ (call (Value.ref 202) [Value.ref _, Value.ref _]) _ _ _); (refine' one_ints_call ?k9S ?k9F ?k9N ?k9U ?k9hi ?k9hD ?k9hq ?k9hz ?k9hlq ?k9hx0 ?k9hx1 ?k9hA ?k9hroom ?k9hu ?_; (case k9F => k_asm); (case k9S => assumption); (case k9N => k_asm); (case k9U => k_updF); (case k9hi => assumption); (case k9hD => assumption); (case k9hq => is_list); (case k9hz => l_ints); (case k9hlq => first | assumption | omega); (case k9hx0 => first | assumption | decide | (simp only [List.length_cons]; omega)); (case k9hx1 => first | assumption | decide | (simp only [List.length_cons, List.length_nil]; omega)); (case k9hA => rfl); (case k9hroom => walk_at "m_rm"); (case k9hu => walk_at "m_rm"); k_whole); walk_at "t_one_ints_call_202") | (k_here; (with_unfolding_all show wpAny _ _ (call (Value.ref 190) [Value.ref _, Value.int _ _]) _ _ _); (refine' draw_call ?k9S ?k9F ?k9N ?k9U ?k9hi ?k9hD ?k9hm0 ?k9hm1 ?k9hA ?k9hroom ?k9hu ?_; (case k9F => k_asm); (case k9S => assumption); (case k9N => k_asm); (case k9U => k_updF); (case k9hi => assumption); (case k9hD => assumption); (case k9hm0 => first | assumption | omega); (case k9hm1 => first | assumption | omega); (case k9hA => rfl); (case k9hroom => walk_at "m_rm"); (case k9hu => walk_at "m_rm"); k_whole); walk_at "t_draw_call_190") | (k_here; (with_unfolding_all show wpAny _ _ (call (Value.ref 214) [Value.ref _]) _ _ _); (refine' shown_call ?k9S ?k9F ?k9N ?k9hl ?k9hi ?k9hlen ?k9hA ?k9hroom ?_; (case k9F => k_asm); (case k9N => k_asm); (case k9S => assumption); (case k9hl => is_list); (case k9hi => l_ints); (case k9hlen => walk_at "m_rm"); (case k9hA => rfl); (case k9hroom => walk_at "m_rm"); k_whole); walk_at "t_shown_call_214") | (k_here; (with_unfolding_all show wpAny _ _ (call (Value.ref 52) [Value.str _ _, Value.ref _]) _ _ _); (refine' table_call ?k9S ?k9F ?k9N ?k9hA ?k9hroom ?_; (case k9F => k_asm); (case k9S => assumption); (case k9N => k_asm); (case k9hA => rfl); (case k9hroom => walk_at "m_rm"); k_whole); walk_at "t_table_call_52s")) | ((with_reducible show wpAny _ _ (eval (Expr.IfExp _ _ _ _) _) _ _ _); with_reducible (with_reducible refine Stop.go ?_)) | ((with_reducible show wpAny _ _ (execs (_ :: _) _) _ _ _); with_reducible ((with_reducible show wpAny _ _ (execs (Stmt.Assign [Expr.Name (Str.ofString "_law_table") _] _ _ :: _) _) _ _ _); with_reducible refine Stop.go ?_)) | ((with_reducible show wpAny _ _ (subscriptTail _ _ (Value.ref _) (Value.ref _)) _ _ _); with_reducible (k_here; (with_reducible show wpAny _ _ (subscriptTail _ (PySem.Expr.Slice _ _ none _) (Value.ref _) (Value.ref _)) _ _ _); k_dflt (refine' kmk_slice_ints (s := ⟨_, _, _, _, _⟩) ?k9F ?k9N ?k9l ?k9p ?k9q ?k9i ?k9m ?k9c ?_ ?k9s ?k9t ?k9z; (case k9F => k_asm); (case k9N => k_asm); (case k9l => kmk_list); (case k9p => kmk_part); (case k9q => kmk_part); (case k9i => l_ints); (case k9m => first | exact kmk_from (by l_ints) (by omega) | kmk_nums); (case k9c => kmk_len); (case k9s => with_unfolding_all rfl); (case k9t => kmk_pure); (case k9z => kmk_size); k_whole); walk_at "t_kmk_slice_ints")) | ((with_reducible show wpAny _ _ (exec (Stmt.While _ _ _ _) _) _ _ _); with_reducible (with_reducible refine Stop.go ?_))) | walk1 | (dsimp only; walk1) | (leave1; (try dsimp only)))
    rename Fr _ _ _ _ => FE
    rename News _ _ _ _ => NE
    refine Stop.go (alike_call (ex := ex2) (es := [e1]) (kvs := [(keyF [120], v2)]) (cs := sp) (bs := textF [e1]) S FE NE mm1 mm2 mm3 mm4 (.head _) (fun p hp => ⟨tt8 hp, hxe p hp⟩) hE3 lo l3.2 hab2 (by simp [e1_ok]) (by simp) hip hib (by omega) hcp (fun _ => rfl) (fun h => absurd hq h) rfl rfl (by omega) (by omega) ?_)
    intro h5 tk5 FF hN5
    have NF := hN5 [(I, oI), (D3, LCg.lst ys), (D, listOf (List.toArray vs) n)] (allP ⟨mm5, en2⟩ (allP ⟨mm6, en3⟩ (allP ⟨mm7, en4⟩ allP_nil)))
    clear FE NE hN5
    (try dsimp only)
    repeat' (first | (k_unfold; (try dsimp only)) | (k_end; kc_close) | (first | ((with_reducible show wpAny _ _ (binaryOp _ (Value.ref _) (Value.ref _)) _ _ _); with_reducible (with_reducible refine Stop.go ?_)) | ((with_reducible show wpAny _ _ (eval (Expr.ListComp _ _ _ _) _) _ _ _); with_reducible (with_reducible refine Stop.go ?_)) | ((with_reducible show wpAny _ _ (call (Value.ref _) _ _) _ _ _); first | ((with_unfolding_all show wpAny _ _ (call (Value.ref 183) [Value.ref _, Value.ref _]) _ _ _); with_reducible refine Stop.go ?_) | ((with_unfolding_all show wpAny _ _ (call (Value.ref 219) [Value.ref _]) _ _ _); with_reducible refine Stop.go ?_) | ((with_unfolding_all show wpAny _ _ (call (Value.ref 106) [Value.ref _]) _ _ _); with_reducible refine Stop.go ?_) | ((with_unfolding_all show wpAny _ _ (call (Value.ref 238) [Value.ref _]) _ _ _); with_reducible refine Stop.go ?_) | ((with_unfolding_all show wpAny _ _ (call (Value.ref 250) [Value.ref _, Value.ref _, Value.ref _]) _ _ _); with_reducible refine Stop.go ?_) | ((with_unfolding_all show wpAny _ _ (call (Value.ref 207) [Value.ref _, Value.str _ _, Value.int _ _]) _ _ _); with_reducible refine Stop.go ?_) | ((with_unfolding_all show wpAny _ _ (call (Value.ref 195) [Value.ref _]) _ _ _); with_reducible refine Stop.go ?_) | (k_here; (with_unfolding_all show wpAny _ _ (call (Value.ref 202) [Value.ref _, Value.ref _]) _ _ _); (refine' one_ints_call ?k9S ?k9F ?k9N ?k9U ?k9hi ?k9hD ?k9hq ?k9hz ?k9hlq ?k9hx0 ?k9hx1 ?k9hA ?k9hroom ?k9hu ?_; (case k9F => k_asm); (case k9S => assumption); (case k9N => k_asm); (case k9U => k_updF); (case k9hi => assumption); (case k9hD => assumption); (case k9hq => is_list); (case k9hz => l_ints); (case k9hlq => first | assumption | omega); (case k9hx0 => first | assumption | decide | (simp only [List.length_cons]; omega)); (case k9hx1 => first | assumption | decide | (simp only [List.length_cons, List.length_nil]; omega)); (case k9hA => rfl); (case k9hroom => walk_at "m_rm"); (case k9hu => walk_at "m_rm"); k_whole); walk_at "t_one_ints_call_202") | (k_here; (with_unfolding_all show wpAny _ _ (call (Value.ref 190) [Value.ref _, Value.int _ _]) _ _ _); (refine' draw_call ?k9S ?k9F ?k9N ?k9U ?k9hi ?k9hD ?k9hm0 ?k9hm1 ?k9hA ?k9hroom ?k9hu ?_; (case k9F => k_asm); (case k9S => assumption); (case k9N => k_asm); (case k9U => k_updF); (case k9hi => assumption); (case k9hD => assumption); (case k9hm0 => first | assumption | omega); (case k9hm1 => first | assumption | omega); (case k9hA => rfl); (case k9hroom => walk_at "m_rm"); (case k9hu => walk_at "m_rm"); k_whole); walk_at "t_draw_call_190") | (k_here; (with_unfolding_all show wpAny _ _ (call (Value.ref 214) [Value.ref _]) _ _ _); (refine' shown_call ?k9S ?k9F ?k9N ?k9hl ?k9hi ?k9hlen ?k9hA ?k9hroom ?_; (case k9F => k_asm); (case k9N => k_asm); (case k9S => assumption); (case k9hl => is_list); (case k9hi => l_ints); (case k9hlen => walk_at "m_rm"); (case k9hA => rfl); (case k9hroom => walk_at "m_rm"); k_whole); walk_at "t_shown_call_214") | (k_here; (with_unfolding_all show wpAny _ _ (call (Value.ref 52) [Value.str _ _, Value.ref _]) _ _ _); (refine' table_call ?k9S ?k9F ?k9N ?k9hA ?k9hroom ?_; (case k9F => k_asm); (case k9S => assumption); (case k9N => k_asm); (case k9hA => rfl); (case k9hroom => walk_at "m_rm"); k_whole); walk_at "t_table_call_52s")) | ((with_reducible show wpAny _ _ (eval (Expr.IfExp _ _ _ _) _) _ _ _); with_reducible (with_reducible refine Stop.go ?_)) | ((with_reducible show wpAny _ _ (execs (_ :: _) _) _ _ _); with_reducible ((with_reducible show wpAny _ _ (execs (Stmt.Assign [Expr.Name (Str.ofString "_law_table") _] _ _ :: _) _) _ _ _); with_reducible refine Stop.go ?_)) | ((with_reducible show wpAny _ _ (subscriptTail _ _ (Value.ref _) (Value.ref _)) _ _ _); with_reducible (k_here; (with_reducible show wpAny _ _ (subscriptTail _ (PySem.Expr.Slice _ _ none _) (Value.ref _) (Value.ref _)) _ _ _); k_dflt (refine' kmk_slice_ints (s := ⟨_, _, _, _, _⟩) ?k9F ?k9N ?k9l ?k9p ?k9q ?k9i ?k9m ?k9c ?_ ?k9s ?k9t ?k9z; (case k9F => k_asm); (case k9N => k_asm); (case k9l => kmk_list); (case k9p => kmk_part); (case k9q => kmk_part); (case k9i => l_ints); (case k9m => first | exact kmk_from (by l_ints) (by omega) | kmk_nums); (case k9c => kmk_len); (case k9s => with_unfolding_all rfl); (case k9t => kmk_pure); (case k9z => kmk_size); k_whole); walk_at "t_kmk_slice_ints")) | ((with_reducible show wpAny _ _ (exec (Stmt.While _ _ _ _) _) _ _ _); with_reducible (with_reducible refine Stop.go ?_))) | walk1 | (dsimp only; walk1) | (leave1; (try dsimp only)))
    exact k _ _ _ FF m1 m2 NF
  · intro es hq De ve ne exe h3 tk3 FD ND0 hne hRe
    have ND : News g L h3 ((en, oE2) :: (ax, tbObj adx) :: (adx, tbDict w.params (Str.ofString "b") la en s.toks t1 t2 t3 t4) :: (Dp, listOf (List.toArray vp) np) :: (I, oI) :: (D3, LCg.lst ys) :: (D, listOf (List.toArray vs) n) :: ex2) := News.sub ND0 fun p hp => List.mem_append_right _ hp
    clear FC NC ND0 hne hRe
    (try dsimp only)
    repeat' (first | (k_unfold; (try dsimp only)) | (k_end; kc_close) | (first | ((with_reducible show wpAny _ _ (binaryOp _ (Value.ref _) (Value.ref _)) _ _ _); with_reducible (with_reducible refine Stop.go ?_)) | ((with_reducible show wpAny _ _ (eval (Expr.ListComp _ _ _ _) _) _ _ _); with_reducible (with_reducible refine Stop.go ?_)) | ((with_reducible show wpAny _ _ (call (Value.ref _) _ _) _ _ _); first | ((with_unfolding_all show wpAny _ _ (call (Value.ref 183) [Value.ref _, Value.ref _]) _ _ _); with_reducible refine Stop.go ?_) | ((with_unfolding_all show wpAny _ _ (call (Value.ref 219) [Value.ref _]) _ _ _); with_reducible refine Stop.go ?_) | ((with_unfolding_all show wpAny _ _ (call (Value.ref 106) [Value.ref _]) _ _ _); with_reducible refine Stop.go ?_) | ((with_unfolding_all show wpAny _ _ (call (Value.ref 238) [Value.ref _]) _ _ _); with_reducible refine Stop.go ?_) | ((with_unfolding_all show wpAny _ _ (call (Value.ref 250) [Value.ref _, Value.ref _, Value.ref _]) _ _ _); with_reducible refine Stop.go ?_) | ((with_unfolding_all show wpAny _ _ (call (Value.ref 207) [Value.ref _, Value.str _ _, Value.int _ _]) _ _ _); with_reducible refine Stop.go ?_) | ((with_unfolding_all show wpAny _ _ (call (Value.ref 195) [Value.ref _]) _ _ _); with_reducible refine Stop.go ?_) | (k_here; (with_unfolding_all show wpAny _ _ (call (Value.ref 202) [Value.ref _, Value.ref _]) _ _ _); (refine' one_ints_call ?k9S ?k9F ?k9N ?k9U ?k9hi ?k9hD ?k9hq ?k9hz ?k9hlq ?k9hx0 ?k9hx1 ?k9hA ?k9hroom ?k9hu ?_; (case k9F => k_asm); (case k9S => assumption); (case k9N => k_asm); (case k9U => k_updF); (case k9hi => assumption); (case k9hD => assumption); (case k9hq => is_list); (case k9hz => l_ints); (case k9hlq => first | assumption | omega); (case k9hx0 => first | assumption | decide | (simp only [List.length_cons]; omega)); (case k9hx1 => first | assumption | decide | (simp only [List.length_cons, List.length_nil]; omega)); (case k9hA => rfl); (case k9hroom => walk_at "m_rm"); (case k9hu => walk_at "m_rm"); k_whole); walk_at "t_one_ints_call_202") | (k_here; (with_unfolding_all show wpAny _ _ (call (Value.ref 190) [Value.ref _, Value.int _ _]) _ _ _); (refine' draw_call ?k9S ?k9F ?k9N ?k9U ?k9hi ?k9hD ?k9hm0 ?k9hm1 ?k9hA ?k9hroom ?k9hu ?_; (case k9F => k_asm); (case k9S => assumption); (case k9N => k_asm); (case k9U => k_updF); (case k9hi => assumption); (case k9hD => assumption); (case k9hm0 => first | assumption | omega); (case k9hm1 => first | assumption | omega); (case k9hA => rfl); (case k9hroom => walk_at "m_rm"); (case k9hu => walk_at "m_rm"); k_whole); walk_at "t_draw_call_190") | (k_here; (with_unfolding_all show wpAny _ _ (call (Value.ref 214) [Value.ref _]) _ _ _); (refine' shown_call ?k9S ?k9F ?k9N ?k9hl ?k9hi ?k9hlen ?k9hA ?k9hroom ?_; (case k9F => k_asm); (case k9N => k_asm); (case k9S => assumption); (case k9hl => is_list); (case k9hi => l_ints); (case k9hlen => walk_at "m_rm"); (case k9hA => rfl); (case k9hroom => walk_at "m_rm"); k_whole); walk_at "t_shown_call_214") | (k_here; (with_unfolding_all show wpAny _ _ (call (Value.ref 52) [Value.str _ _, Value.ref _]) _ _ _); (refine' table_call ?k9S ?k9F ?k9N ?k9hA ?k9hroom ?_; (case k9F => k_asm); (case k9S => assumption); (case k9N => k_asm); (case k9hA => rfl); (case k9hroom => walk_at "m_rm"); k_whole); walk_at "t_table_call_52s")) | ((with_reducible show wpAny _ _ (eval (Expr.IfExp _ _ _ _) _) _ _ _); with_reducible (with_reducible refine Stop.go ?_)) | ((with_reducible show wpAny _ _ (execs (_ :: _) _) _ _ _); with_reducible ((with_reducible show wpAny _ _ (execs (Stmt.Assign [Expr.Name (Str.ofString "_law_table") _] _ _ :: _) _) _ _ _); with_reducible refine Stop.go ?_)) | ((with_reducible show wpAny _ _ (subscriptTail _ _ (Value.ref _) (Value.ref _)) _ _ _); with_reducible (k_here; (with_reducible show wpAny _ _ (subscriptTail _ (PySem.Expr.Slice _ _ none _) (Value.ref _) (Value.ref _)) _ _ _); k_dflt (refine' kmk_slice_ints (s := ⟨_, _, _, _, _⟩) ?k9F ?k9N ?k9l ?k9p ?k9q ?k9i ?k9m ?k9c ?_ ?k9s ?k9t ?k9z; (case k9F => k_asm); (case k9N => k_asm); (case k9l => kmk_list); (case k9p => kmk_part); (case k9q => kmk_part); (case k9i => l_ints); (case k9m => first | exact kmk_from (by l_ints) (by omega) | kmk_nums); (case k9c => kmk_len); (case k9s => with_unfolding_all rfl); (case k9t => kmk_pure); (case k9z => kmk_size); k_whole); walk_at "t_kmk_slice_ints")) | ((with_reducible show wpAny _ _ (exec (Stmt.While _ _ _ _) _) _ _ _); with_reducible (with_reducible refine Stop.go ?_))) | walk1 | (dsimp only; walk1) | (leave1; (try dsimp only)))
    rename Fr _ _ _ _ => FD
    rename News _ _ _ _ => ND
    refine Stop.go (ttext_call (ex := ex2) (es := [e1]) S FD ND (.head _) mm1 mm2 (fun p hp => tt7 hp) hE3 lo hab2 (by simp [e1_ok]) (by simp) rfl (by dsimp only [Around.deeper]; omega) (by dsimp only [Around.deeper]; omega) ?_)
    intro Db vb nb h4 tk4 hneb FE NE hib hlb
    have b1 : @Ne Nat en Db := hneb.1
    clear FD ND hneb
    (try dsimp only)
    repeat' (first | (k_unfold; (try dsimp only)) | (k_end; kc_close) | (first | ((with_reducible show wpAny _ _ (binaryOp _ (Value.ref _) (Value.ref _)) _ _ _); with_reducible (with_reducible refine Stop.go ?_)) | ((with_reducible show wpAny _ _ (eval (Expr.ListComp _ _ _ _) _) _ _ _); with_reducible (with_reducible refine Stop.go ?_)) | ((with_reducible show wpAny _ _ (call (Value.ref _) _ _) _ _ _); first | ((with_unfolding_all show wpAny _ _ (call (Value.ref 183) [Value.ref _, Value.ref _]) _ _ _); with_reducible refine Stop.go ?_) | ((with_unfolding_all show wpAny _ _ (call (Value.ref 219) [Value.ref _]) _ _ _); with_reducible refine Stop.go ?_) | ((with_unfolding_all show wpAny _ _ (call (Value.ref 106) [Value.ref _]) _ _ _); with_reducible refine Stop.go ?_) | ((with_unfolding_all show wpAny _ _ (call (Value.ref 238) [Value.ref _]) _ _ _); with_reducible refine Stop.go ?_) | ((with_unfolding_all show wpAny _ _ (call (Value.ref 250) [Value.ref _, Value.ref _, Value.ref _]) _ _ _); with_reducible refine Stop.go ?_) | ((with_unfolding_all show wpAny _ _ (call (Value.ref 207) [Value.ref _, Value.str _ _, Value.int _ _]) _ _ _); with_reducible refine Stop.go ?_) | ((with_unfolding_all show wpAny _ _ (call (Value.ref 195) [Value.ref _]) _ _ _); with_reducible refine Stop.go ?_) | (k_here; (with_unfolding_all show wpAny _ _ (call (Value.ref 202) [Value.ref _, Value.ref _]) _ _ _); (refine' one_ints_call ?k9S ?k9F ?k9N ?k9U ?k9hi ?k9hD ?k9hq ?k9hz ?k9hlq ?k9hx0 ?k9hx1 ?k9hA ?k9hroom ?k9hu ?_; (case k9F => k_asm); (case k9S => assumption); (case k9N => k_asm); (case k9U => k_updF); (case k9hi => assumption); (case k9hD => assumption); (case k9hq => is_list); (case k9hz => l_ints); (case k9hlq => first | assumption | omega); (case k9hx0 => first | assumption | decide | (simp only [List.length_cons]; omega)); (case k9hx1 => first | assumption | decide | (simp only [List.length_cons, List.length_nil]; omega)); (case k9hA => rfl); (case k9hroom => walk_at "m_rm"); (case k9hu => walk_at "m_rm"); k_whole); walk_at "t_one_ints_call_202") | (k_here; (with_unfolding_all show wpAny _ _ (call (Value.ref 190) [Value.ref _, Value.int _ _]) _ _ _); (refine' draw_call ?k9S ?k9F ?k9N ?k9U ?k9hi ?k9hD ?k9hm0 ?k9hm1 ?k9hA ?k9hroom ?k9hu ?_; (case k9F => k_asm); (case k9S => assumption); (case k9N => k_asm); (case k9U => k_updF); (case k9hi => assumption); (case k9hD => assumption); (case k9hm0 => first | assumption | omega); (case k9hm1 => first | assumption | omega); (case k9hA => rfl); (case k9hroom => walk_at "m_rm"); (case k9hu => walk_at "m_rm"); k_whole); walk_at "t_draw_call_190") | (k_here; (with_unfolding_all show wpAny _ _ (call (Value.ref 214) [Value.ref _]) _ _ _); (refine' shown_call ?k9S ?k9F ?k9N ?k9hl ?k9hi ?k9hlen ?k9hA ?k9hroom ?_; (case k9F => k_asm); (case k9N => k_asm); (case k9S => assumption); (case k9hl => is_list); (case k9hi => l_ints); (case k9hlen => walk_at "m_rm"); (case k9hA => rfl); (case k9hroom => walk_at "m_rm"); k_whole); walk_at "t_shown_call_214") | (k_here; (with_unfolding_all show wpAny _ _ (call (Value.ref 52) [Value.str _ _, Value.ref _]) _ _ _); (refine' table_call ?k9S ?k9F ?k9N ?k9hA ?k9hroom ?_; (case k9F => k_asm); (case k9S => assumption); (case k9N => k_asm); (case k9hA => rfl); (case k9hroom => walk_at "m_rm"); k_whole); walk_at "t_table_call_52s")) | ((with_reducible show wpAny _ _ (eval (Expr.IfExp _ _ _ _) _) _ _ _); with_reducible (with_reducible refine Stop.go ?_)) | ((with_reducible show wpAny _ _ (execs (_ :: _) _) _ _ _); with_reducible ((with_reducible show wpAny _ _ (execs (Stmt.Assign [Expr.Name (Str.ofString "_law_table") _] _ _ :: _) _) _ _ _); with_reducible refine Stop.go ?_)) | ((with_reducible show wpAny _ _ (subscriptTail _ _ (Value.ref _) (Value.ref _)) _ _ _); with_reducible (k_here; (with_reducible show wpAny _ _ (subscriptTail _ (PySem.Expr.Slice _ _ none _) (Value.ref _) (Value.ref _)) _ _ _); k_dflt (refine' kmk_slice_ints (s := ⟨_, _, _, _, _⟩) ?k9F ?k9N ?k9l ?k9p ?k9q ?k9i ?k9m ?k9c ?_ ?k9s ?k9t ?k9z; (case k9F => k_asm); (case k9N => k_asm); (case k9l => kmk_list); (case k9p => kmk_part); (case k9q => kmk_part); (case k9i => l_ints); (case k9m => first | exact kmk_from (by l_ints) (by omega) | kmk_nums); (case k9c => kmk_len); (case k9s => with_unfolding_all rfl); (case k9t => kmk_pure); (case k9z => kmk_size); k_whole); walk_at "t_kmk_slice_ints")) | ((with_reducible show wpAny _ _ (exec (Stmt.While _ _ _ _) _) _ _ _); with_reducible (with_reducible refine Stop.go ?_))) | walk1 | (dsimp only; walk1) | (leave1; (try dsimp only)))
    rename Fr _ _ _ _ => FE
    rename News _ _ _ _ => NE
    rename_i l9 _ _ ax9 adx9 en9 _ _ _ _ oE9 _ _ l39 l49 lo9 hs9 _ _ lb9 _ _
    refine Stop.go (alike_call (ex := []) (es := []) (kvs := []) (vb := []) (cs := sp) (bs := []) S FE NE mm1 mm2 mm3 mm9 (.head _) (by simp) hs9 lo9 l39.2 trivial (by simp) (by simp) hip .nil (by omega) hcp (fun h => by rw [hq] at h; cases h) (fun _ => rfl) rfl rfl (by omega) (by omega) ?_)
    intro h5 tk5 FF hN5
    have NF := hN5 [(I, oI), (D3, LCg.lst ys), (D, listOf (List.toArray vs) n)] (allP ⟨mm10, l49.2.2.2.2.2.2.1⟩ (allP ⟨mm11, l49.2.2.2.2.2.2.2.1⟩ (allP ⟨mm12, l49.2.2.2.2.2.2.2.2.1⟩ allP_nil)))
    clear FE NE hN5
    (try dsimp only)
    repeat' (first | (k_unfold; (try dsimp only)) | (k_end; kc_close) | (first | ((with_reducible show wpAny _ _ (binaryOp _ (Value.ref _) (Value.ref _)) _ _ _); with_reducible (with_reducible refine Stop.go ?_)) | ((with_reducible show wpAny _ _ (eval (Expr.ListComp _ _ _ _) _) _ _ _); with_reducible (with_reducible refine Stop.go ?_)) | ((with_reducible show wpAny _ _ (call (Value.ref _) _ _) _ _ _); first | ((with_unfolding_all show wpAny _ _ (call (Value.ref 183) [Value.ref _, Value.ref _]) _ _ _); with_reducible refine Stop.go ?_) | ((with_unfolding_all show wpAny _ _ (call (Value.ref 219) [Value.ref _]) _ _ _); with_reducible refine Stop.go ?_) | ((with_unfolding_all show wpAny _ _ (call (Value.ref 106) [Value.ref _]) _ _ _); with_reducible refine Stop.go ?_) | ((with_unfolding_all show wpAny _ _ (call (Value.ref 238) [Value.ref _]) _ _ _); with_reducible refine Stop.go ?_) | ((with_unfolding_all show wpAny _ _ (call (Value.ref 250) [Value.ref _, Value.ref _, Value.ref _]) _ _ _); with_reducible refine Stop.go ?_) | ((with_unfolding_all show wpAny _ _ (call (Value.ref 207) [Value.ref _, Value.str _ _, Value.int _ _]) _ _ _); with_reducible refine Stop.go ?_) | ((with_unfolding_all show wpAny _ _ (call (Value.ref 195) [Value.ref _]) _ _ _); with_reducible refine Stop.go ?_) | (k_here; (with_unfolding_all show wpAny _ _ (call (Value.ref 202) [Value.ref _, Value.ref _]) _ _ _); (refine' one_ints_call ?k9S ?k9F ?k9N ?k9U ?k9hi ?k9hD ?k9hq ?k9hz ?k9hlq ?k9hx0 ?k9hx1 ?k9hA ?k9hroom ?k9hu ?_; (case k9F => k_asm); (case k9S => assumption); (case k9N => k_asm); (case k9U => k_updF); (case k9hi => assumption); (case k9hD => assumption); (case k9hq => is_list); (case k9hz => l_ints); (case k9hlq => first | assumption | omega); (case k9hx0 => first | assumption | decide | (simp only [List.length_cons]; omega)); (case k9hx1 => first | assumption | decide | (simp only [List.length_cons, List.length_nil]; omega)); (case k9hA => rfl); (case k9hroom => walk_at "m_rm"); (case k9hu => walk_at "m_rm"); k_whole); walk_at "t_one_ints_call_202") | (k_here; (with_unfolding_all show wpAny _ _ (call (Value.ref 190) [Value.ref _, Value.int _ _]) _ _ _); (refine' draw_call ?k9S ?k9F ?k9N ?k9U ?k9hi ?k9hD ?k9hm0 ?k9hm1 ?k9hA ?k9hroom ?k9hu ?_; (case k9F => k_asm); (case k9S => assumption); (case k9N => k_asm); (case k9U => k_updF); (case k9hi => assumption); (case k9hD => assumption); (case k9hm0 => first | assumption | omega); (case k9hm1 => first | assumption | omega); (case k9hA => rfl); (case k9hroom => walk_at "m_rm"); (case k9hu => walk_at "m_rm"); k_whole); walk_at "t_draw_call_190") | (k_here; (with_unfolding_all show wpAny _ _ (call (Value.ref 214) [Value.ref _]) _ _ _); (refine' shown_call ?k9S ?k9F ?k9N ?k9hl ?k9hi ?k9hlen ?k9hA ?k9hroom ?_; (case k9F => k_asm); (case k9N => k_asm); (case k9S => assumption); (case k9hl => is_list); (case k9hi => l_ints); (case k9hlen => walk_at "m_rm"); (case k9hA => rfl); (case k9hroom => walk_at "m_rm"); k_whole); walk_at "t_shown_call_214") | (k_here; (with_unfolding_all show wpAny _ _ (call (Value.ref 52) [Value.str _ _, Value.ref _]) _ _ _); (refine' table_call ?k9S ?k9F ?k9N ?k9hA ?k9hroom ?_; (case k9F => k_asm); (case k9S => assumption); (case k9N => k_asm); (case k9hA => rfl); (case k9hroom => walk_at "m_rm"); k_whole); walk_at "t_table_call_52s")) | ((with_reducible show wpAny _ _ (eval (Expr.IfExp _ _ _ _) _) _ _ _); with_reducible (with_reducible refine Stop.go ?_)) | ((with_reducible show wpAny _ _ (execs (_ :: _) _) _ _ _); with_reducible ((with_reducible show wpAny _ _ (execs (Stmt.Assign [Expr.Name (Str.ofString "_law_table") _] _ _ :: _) _) _ _ _); with_reducible refine Stop.go ?_)) | ((with_reducible show wpAny _ _ (subscriptTail _ _ (Value.ref _) (Value.ref _)) _ _ _); with_reducible (k_here; (with_reducible show wpAny _ _ (subscriptTail _ (PySem.Expr.Slice _ _ none _) (Value.ref _) (Value.ref _)) _ _ _); k_dflt (refine' kmk_slice_ints (s := ⟨_, _, _, _, _⟩) ?k9F ?k9N ?k9l ?k9p ?k9q ?k9i ?k9m ?k9c ?_ ?k9s ?k9t ?k9z; (case k9F => k_asm); (case k9N => k_asm); (case k9l => kmk_list); (case k9p => kmk_part); (case k9q => kmk_part); (case k9i => l_ints); (case k9m => first | exact kmk_from (by l_ints) (by omega) | kmk_nums); (case k9c => kmk_len); (case k9s => with_unfolding_all rfl); (case k9t => kmk_pure); (case k9z => kmk_size); k_whole); walk_at "t_kmk_slice_ints")) | ((with_reducible show wpAny _ _ (exec (Stmt.While _ _ _ _) _) _ _ _); with_reducible (with_reducible refine Stop.go ?_))) | walk1 | (dsimp only; walk1) | (leave1; (try dsimp only)))
    exact k _ _ _ FF m1 m2 NF
end
end

section


theorem textF_nil : textF [] = [] := by
  have h : orderE [] = [] := List.eq_nil_of_length_eq_zero (order_len _ _)
  unfold textF
  rw [h]; rfl
theorem bads {x : Str} (h : x = Str.ofString "01" ∨ x = Str.ofString "00" ∨ x = Str.ofString "") :
    x.length ≤ 2 ∧ entsOf (codesOf (Str.ofString "\"a\" " ++ x ++ Str.ofString " \"b\"\n")) = none ∧ (Str.ofString "\"a\" " ++ x ++ Str.ofString " \"b\"\n").cps.size ≤ 20 ∧ ∀ c ∈ codesOf (Str.ofString "\"a\" " ++ x ++ Str.ofString " \"b\"\n"), 0 ≤ c ∧ c < 1000000 := by
  rcases h with rfl | rfl | rfl
  · refine ⟨?_, ?_, ?_, ?_⟩ <;> decide +kernel
  · refine ⟨?_, ?_, ?_, ?_⟩ <;> decide +kernel
  · refine ⟨?_, ?_, ?_, ?_⟩ <;> decide +kernel
section
open LCg LCt
variable {prog : Program} {w : World} {A : Around} {E : Value → Shared → Prop} {s s₁ : Shared} {h₀ : Heap} {L : Addr} {m : Str → Option Value} {env : Env} {news : List (Addr × Obj)}
theorem src_tup {ax : Addr} {its : Array Value} (hh : A.handled = none) (hl : s₁.heap.IsTuple ax its) : Src prog w A h₀ L (.ref ax) s₁ its.size (fun i v => its[i]? = some v) (fun nw => ∃ o, (ax, o) ∈ nw ∧ o.cls = .type "tuple" ∧ ∃ n, o.data = .seq its n) := by
  intro Q E h
  have hlt : ax < s₁.heap.objs.size := by obtain ⟨_, e, _⟩ := hl; exact Heap.lt_size e
  refine wpAny_pyIter_tuple hl (h _ _ _ (Walks.tuple hh s₁.heap.objs.size ax (Nat.ne_of_lt hlt) its) (fun i h st => by obtain ⟨o, e, _⟩ := st.1; exact ⟨o, e⟩) (fun i h h' o nw st e e' k N S => ⟨?_, ?_⟩) ⟨⟨_, Heap.get?_push_size _ rfl, rfl, rfl⟩, hl.push _⟩ (fun b hb => ?_) (Heap.get?_push_size _ rfl))
  · obtain ⟨o', q, r⟩ := st.1; rw [e] at q; cases q; exact ⟨o, e', r⟩
  · obtain ⟨o', hm, r⟩ := S
    exact ⟨o', N.get hm, r⟩
  · show b < (s₁.heap.push _).objs.size
    rw [Heap.size_push]
    rcases List.mem_cons.mp hb with rfl | hb
    · exact Nat.lt_succ_self _
    · rw [List.mem_singleton.mp hb]; exact Nat.lt_succ_of_lt hlt
theorem CGoT.none {ct elt : Expr} {x : Str} {scope : Scope} {cl : List (Str × Addr)} {Fin : Shared → List Value → List (Addr × Obj) → Prop} {xv : Value} {n : Nat} {P : Nat → Value → Prop} {S : List (Addr × Obj) → Prop}
    (F : Fr h₀ L s₁.heap m) (N : News h₀ L s₁.heap news) (src : Src prog w A h₀ L xv s₁ n P S) (hsz : n ≤ 1000000) (hS : S news)
    (step : ∀ i v I oI C oC D m₂ h tk (E' : Value → Shared → Prop), i < n → P i v → NsObj oC m₂ → m₂ x = some v → Fr h₀ L h m → News h₀ L h ((I, oI) :: (C, oC) :: (D, lst []) :: news) → Off3 I C D news → ((@Ne Nat I C) ∧ (@Ne Nat I D) ∧ (@Ne Nat C D)) →
      wpAny (model prog w) A (isTrue ct (compEnvC scope cl C env) (eval ct (compEnvC scope cl C env))) (fun ok s' => Stop (ok = false ∧ ∃ h' tk', s' = { s₁ with heap := h', toks := tk' } ∧ Fr h₀ L h' m ∧ News h₀ L h' ((I, oI) :: (C, oC) :: (D, lst []) :: news))) E' { s₁ with heap := h, toks := tk })
    (done : ∀ g, Fin { s₁ with heap := g } [] news) : CGoT prog w A h₀ L m env ct elt x scope cl Fin xv s₁ := by
  refine ⟨n, P, S, news, src, Nat.le_trans hsz (by rw [sizeLine_eq]; omega), F, N, hS, fun g => ?_⟩
  have go : ∀ k i, i + k = n → CompRestT prog w A h₀ L m env ct elt x scope cl { s₁ with heap := g } S P (Fin { s₁ with heap := g }) k i [] news := by
    intro k
    induction k with
    | zero => intro i _; exact CompRestT.zero (done g)
    | succ k ih =>
      intro i hi
      refine CompRestT.succ fun v I oI C oC D m₂ h tk E' hP hC hx F N off ne => ?_
      refine wpAny_mono (step i v I oI C oC D m₂ h tk E' (by omega) hP hC hx F N off ne) (fun ok s₂ q => ?_) fun _ _ e => e
      obtain ⟨rfl, h', tk', rfl, F', N'⟩ := q
      simp only [Bool.false_eq_true, if_false]
      exact ⟨h', tk', news, rfl, F', N', off, hS, ih (i + 1) (by omega)⟩
  exact go n 0 (Nat.zero_add _)
end
section
variable {w : World} {mean : ExcName → Option Value} {mg mb : Str → Option Value} {g : Heap} {s : Shared} {dp un : Nat} {gd : Option (List Code)} {m : Str → Option Value} {L fa : Addr} {cd : Value}
  {E : Value → Shared → Prop} {Q : Flow → Shared → Prop}
set_option maxHeartbeats 8000000 in
theorem end_spec (S : Sx w mean mg mb g) (F : Fr g L s.heap m) (N : News g L s.heap []) (hdp : dp + 500 < recursionLimit) (hun : un ≤ 100)
    (k : ∀ h' tk m', Fr g L h' m' → Q (.ret (.bool true)) { s with heap := h', toks := tk }) :
    wpAny (model PySem.Challenge.rw_on0064_01.row.prog w) ((⟨none, dp, some [], gd, un⟩ : Around).deeper (envOf (Str.ofString "law") lawScope L fa cd)) (execs endBody (envOf (Str.ofString "law") lawScope L fa cd)) Q E s := by
  (have KX9 : Fill Mine.hd.heap_39 PySem.Challenge.rw_on0064_01 := (by k_fill; exact trivial); clear KX9)
  have X := S.X
  have T := S.T
  conv in endBody => whnf
  conv in (occs := *) lawScope => all_goals whnf
  repeat' (first | (k_unfold; (try dsimp only)) | (k_end; kc_close) | (first | ((with_reducible show wpAny _ _ (eval (Expr.ListComp _ _ _ _) _) _ _ _); with_reducible (with_reducible refine Stop.go ?_)) | ((with_reducible show wpAny _ _ (call (Value.ref _) _ _) _ _ _); first | ((with_unfolding_all show wpAny _ _ (call (Value.ref 183) [Value.ref _, Value.ref _]) _ _ _); with_reducible refine Stop.go ?_) | ((with_unfolding_all show wpAny _ _ (call (Value.ref 219) [Value.ref _]) _ _ _); with_reducible refine Stop.go ?_) | ((with_unfolding_all show wpAny _ _ (call (Value.ref 106) [Value.ref _]) _ _ _); with_reducible refine Stop.go ?_) | ((with_unfolding_all show wpAny _ _ (call (Value.ref 238) [Value.ref _]) _ _ _); with_reducible refine Stop.go ?_) | ((with_unfolding_all show wpAny _ _ (call (Value.ref 250) [Value.ref _, Value.ref _, Value.ref _]) _ _ _); with_reducible refine Stop.go ?_) | ((with_unfolding_all show wpAny _ _ (call (Value.ref 207) [Value.ref _, Value.str _ _, Value.int _ _]) _ _ _); with_reducible refine Stop.go ?_) | ((with_unfolding_all show wpAny _ _ (call (Value.ref 195) [Value.ref _]) _ _ _); with_reducible refine Stop.go ?_) | (k_here; (with_unfolding_all show wpAny _ _ (call (Value.ref 52) [Value.str _ _, Value.ref _]) _ _ _); (refine' table_call ?k9S ?k9F ?k9N ?k9hA ?k9hroom ?_; (case k9F => k_asm); (case k9S => assumption); (case k9N => k_asm); (case k9hA => rfl); (case k9hroom => walk_at "m_rm"); k_whole); walk_at "t_table_call_52s")) | ((with_reducible show wpAny _ _ (binaryOp _ (Value.ref _) (Value.ref _)) _ _ _); with_reducible (k_here; (with_reducible show wpAny _ _ (binaryOp _ (Value.ref _) (Value.ref _)) _ _ _); k_dflt (first | (refine' add_mineB ?k9F ?k9N ?k9a ?k9b ?k9i ?k9j ?k9y ?k9z ?k9k ?_; (case k9F => k_asm); (case k9N => k_asm); (case k9a => kmk_list); (case k9b => kmk_list); (case k9i => l_ints); (case k9j => l_ints); (case k9y => walk_at "m_bd"); (case k9z => walk_at "m_bd"); (case k9k => rfl); k_whole) | (refine' add_mine ?k9F ?k9N ?k9a ?k9b ?k9i ?k9j ?k9z ?_; (case k9F => k_asm); (case k9N => k_asm); (case k9a => kmk_list); (case k9b => kmk_list); (case k9i => l_ints); (case k9j => l_ints); (case k9z => ((try simp only [List.length_cons, List.length_nil]); omega)); k_whole)); walk_at "t_add_mineB")) | ((with_reducible show wpAny _ _ (exec (Stmt.While _ _ _ _) _) _ _ _); with_reducible (with_reducible refine Stop.go ?_))) | walk1 | (dsimp only; walk1) | (leave1; (try dsimp only)))
  refine Stop.go (comp_ruleT (by assumption) rfl (by decide) rfl (by decide) rfl ?_ (fun _ => rfl))
  repeat' (first | (k_unfold; (try dsimp only)) | (k_end; kc_close) | (first | ((with_reducible show wpAny _ _ (eval (Expr.ListComp _ _ _ _) _) _ _ _); with_reducible (with_reducible refine Stop.go ?_)) | ((with_reducible show wpAny _ _ (call (Value.ref _) _ _) _ _ _); first | ((with_unfolding_all show wpAny _ _ (call (Value.ref 183) [Value.ref _, Value.ref _]) _ _ _); with_reducible refine Stop.go ?_) | ((with_unfolding_all show wpAny _ _ (call (Value.ref 219) [Value.ref _]) _ _ _); with_reducible refine Stop.go ?_) | ((with_unfolding_all show wpAny _ _ (call (Value.ref 106) [Value.ref _]) _ _ _); with_reducible refine Stop.go ?_) | ((with_unfolding_all show wpAny _ _ (call (Value.ref 238) [Value.ref _]) _ _ _); with_reducible refine Stop.go ?_) | ((with_unfolding_all show wpAny _ _ (call (Value.ref 250) [Value.ref _, Value.ref _, Value.ref _]) _ _ _); with_reducible refine Stop.go ?_) | ((with_unfolding_all show wpAny _ _ (call (Value.ref 207) [Value.ref _, Value.str _ _, Value.int _ _]) _ _ _); with_reducible refine Stop.go ?_) | ((with_unfolding_all show wpAny _ _ (call (Value.ref 195) [Value.ref _]) _ _ _); with_reducible refine Stop.go ?_) | (k_here; (with_unfolding_all show wpAny _ _ (call (Value.ref 52) [Value.str _ _, Value.ref _]) _ _ _); (refine' table_call ?k9S ?k9F ?k9N ?k9hA ?k9hroom ?_; (case k9F => k_asm); (case k9S => assumption); (case k9N => k_asm); (case k9hA => rfl); (case k9hroom => walk_at "m_rm"); k_whole); walk_at "t_table_call_52s")) | ((with_reducible show wpAny _ _ (binaryOp _ (Value.ref _) (Value.ref _)) _ _ _); with_reducible (k_here; (with_reducible show wpAny _ _ (binaryOp _ (Value.ref _) (Value.ref _)) _ _ _); k_dflt (first | (refine' add_mineB ?k9F ?k9N ?k9a ?k9b ?k9i ?k9j ?k9y ?k9z ?k9k ?_; (case k9F => k_asm); (case k9N => k_asm); (case k9a => kmk_list); (case k9b => kmk_list); (case k9i => l_ints); (case k9j => l_ints); (case k9y => walk_at "m_bd"); (case k9z => walk_at "m_bd"); (case k9k => rfl); k_whole) | (refine' add_mine ?k9F ?k9N ?k9a ?k9b ?k9i ?k9j ?k9z ?_; (case k9F => k_asm); (case k9N => k_asm); (case k9a => kmk_list); (case k9b => kmk_list); (case k9i => l_ints); (case k9j => l_ints); (case k9z => ((try simp only [List.length_cons, List.length_nil]); omega)); k_whole)); walk_at "t_add_mineB")) | ((with_reducible show wpAny _ _ (exec (Stmt.While _ _ _ _) _) _ _ _); with_reducible (with_reducible refine Stop.go ?_))) | walk1 | (dsimp only; walk1) | (leave1; (try dsimp only)))
  rename Fr _ _ _ _ => F1
  rename News _ _ _ _ => N1
  rename_i tp _ _
  (try dsimp only)
  refine CGoT.none F1 N1 (src_tup rfl (N1.isTup (.head _))) (Nat.le_of_ble_eq_true rfl) ⟨_, .head _, rfl, _, rfl⟩ ?_ ?_
  · intro i v I oI C oC D m₂ h tk E' hi hP hC hx F2 N2 off ne
    obtain ⟨x, t, rfl, hxc⟩ : ∃ x t, v = .str x t ∧ (x = Str.ofString "01" ∨ x = Str.ofString "00" ∨ x = Str.ofString "") := by
      match i, hi, hP with
      | 0, _, hP => exact ⟨_, _, (Option.some.inj hP).symm, .inl rfl⟩
      | 1, _, hP => exact ⟨_, _, (Option.some.inj hP).symm, .inr (.inl rfl)⟩
      | 2, _, hP => exact ⟨_, _, (Option.some.inj hP).symm, .inr (.inr rfl)⟩
      | n + 3, hi, _ => exact absurd hi (by simp)
    clear F1 N1 hP
    (try dsimp only)
    repeat' (first | (k_unfold; (try dsimp only)) | (k_end; kc_close) | (first | ((with_reducible show wpAny _ _ (eval (Expr.ListComp _ _ _ _) _) _ _ _); with_reducible (with_reducible refine Stop.go ?_)) | ((with_reducible show wpAny _ _ (call (Value.ref _) _ _) _ _ _); first | ((with_unfolding_all show wpAny _ _ (call (Value.ref 183) [Value.ref _, Value.ref _]) _ _ _); with_reducible refine Stop.go ?_) | ((with_unfolding_all show wpAny _ _ (call (Value.ref 219) [Value.ref _]) _ _ _); with_reducible refine Stop.go ?_) | ((with_unfolding_all show wpAny _ _ (call (Value.ref 106) [Value.ref _]) _ _ _); with_reducible refine Stop.go ?_) | ((with_unfolding_all show wpAny _ _ (call (Value.ref 238) [Value.ref _]) _ _ _); with_reducible refine Stop.go ?_) | ((with_unfolding_all show wpAny _ _ (call (Value.ref 250) [Value.ref _, Value.ref _, Value.ref _]) _ _ _); with_reducible refine Stop.go ?_) | ((with_unfolding_all show wpAny _ _ (call (Value.ref 207) [Value.ref _, Value.str _ _, Value.int _ _]) _ _ _); with_reducible refine Stop.go ?_) | ((with_unfolding_all show wpAny _ _ (call (Value.ref 195) [Value.ref _]) _ _ _); with_reducible refine Stop.go ?_) | (k_here; (with_unfolding_all show wpAny _ _ (call (Value.ref 52) [Value.str _ _, Value.ref _]) _ _ _); (refine' table_call ?k9S ?k9F ?k9N ?k9hA ?k9hroom ?_; (case k9F => k_asm); (case k9S => assumption); (case k9N => k_asm); (case k9hA => rfl); (case k9hroom => walk_at "m_rm"); k_whole); walk_at "t_table_call_52s")) | ((with_reducible show wpAny _ _ (binaryOp _ (Value.ref _) (Value.ref _)) _ _ _); with_reducible (k_here; (with_reducible show wpAny _ _ (binaryOp _ (Value.ref _) (Value.ref _)) _ _ _); k_dflt (first | (refine' add_mineB ?k9F ?k9N ?k9a ?k9b ?k9i ?k9j ?k9y ?k9z ?k9k ?_; (case k9F => k_asm); (case k9N => k_asm); (case k9a => kmk_list); (case k9b => kmk_list); (case k9i => l_ints); (case k9j => l_ints); (case k9y => walk_at "m_bd"); (case k9z => walk_at "m_bd"); (case k9k => rfl); k_whole) | (refine' add_mine ?k9F ?k9N ?k9a ?k9b ?k9i ?k9j ?k9z ?_; (case k9F => k_asm); (case k9N => k_asm); (case k9a => kmk_list); (case k9b => kmk_list); (case k9i => l_ints); (case k9j => l_ints); (case k9z => ((try simp only [List.length_cons, List.length_nil]); omega)); k_whole)); walk_at "t_add_mineB")) | ((with_reducible show wpAny _ _ (exec (Stmt.While _ _ _ _) _) _ _ _); with_reducible (with_reducible refine Stop.go ?_))) | walk1 | (dsimp only; walk1) | (leave1; (try dsimp only)))
    refine Stop.go (comp_rule (by assumption) rfl (by decide) rfl (by decide) rfl ?_ (fun _ => rfl))
    (try dsimp only)
    repeat' (first | (k_unfold; (try dsimp only)) | (k_end; kc_close) | (first | ((with_reducible show wpAny _ _ (eval (Expr.ListComp _ _ _ _) _) _ _ _); with_reducible (with_reducible refine Stop.go ?_)) | ((with_reducible show wpAny _ _ (call (Value.ref _) _ _) _ _ _); first | ((with_unfolding_all show wpAny _ _ (call (Value.ref 183) [Value.ref _, Value.ref _]) _ _ _); with_reducible refine Stop.go ?_) | ((with_unfolding_all show wpAny _ _ (call (Value.ref 219) [Value.ref _]) _ _ _); with_reducible refine Stop.go ?_) | ((with_unfolding_all show wpAny _ _ (call (Value.ref 106) [Value.ref _]) _ _ _); with_reducible refine Stop.go ?_) | ((with_unfolding_all show wpAny _ _ (call (Value.ref 238) [Value.ref _]) _ _ _); with_reducible refine Stop.go ?_) | ((with_unfolding_all show wpAny _ _ (call (Value.ref 250) [Value.ref _, Value.ref _, Value.ref _]) _ _ _); with_reducible refine Stop.go ?_) | ((with_unfolding_all show wpAny _ _ (call (Value.ref 207) [Value.ref _, Value.str _ _, Value.int _ _]) _ _ _); with_reducible refine Stop.go ?_) | ((with_unfolding_all show wpAny _ _ (call (Value.ref 195) [Value.ref _]) _ _ _); with_reducible refine Stop.go ?_) | (k_here; (with_unfolding_all show wpAny _ _ (call (Value.ref 52) [Value.str _ _, Value.ref _]) _ _ _); (refine' table_call ?k9S ?k9F ?k9N ?k9hA ?k9hroom ?_; (case k9F => k_asm); (case k9S => assumption); (case k9N => k_asm); (case k9hA => rfl); (case k9hroom => walk_at "m_rm"); k_whole); walk_at "t_table_call_52s")) | ((with_reducible show wpAny _ _ (binaryOp _ (Value.ref _) (Value.ref _)) _ _ _); with_reducible (k_here; (with_reducible show wpAny _ _ (binaryOp _ (Value.ref _) (Value.ref _)) _ _ _); k_dflt (first | (refine' add_mineB ?k9F ?k9N ?k9a ?k9b ?k9i ?k9j ?k9y ?k9z ?k9k ?_; (case k9F => k_asm); (case k9N => k_asm); (case k9a => kmk_list); (case k9b => kmk_list); (case k9i => l_ints); (case k9j => l_ints); (case k9y => walk_at "m_bd"); (case k9z => walk_at "m_bd"); (case k9k => rfl); k_whole) | (refine' add_mine ?k9F ?k9N ?k9a ?k9b ?k9i ?k9j ?k9z ?_; (case k9F => k_asm); (case k9N => k_asm); (case k9a => kmk_list); (case k9b => kmk_list); (case k9i => l_ints); (case k9j => l_ints); (case k9z => ((try simp only [List.length_cons, List.length_nil]); omega)); k_whole)); walk_at "t_add_mineB")) | ((with_reducible show wpAny _ _ (exec (Stmt.While _ _ _ _) _) _ _ _); with_reducible (with_reducible refine Stop.go ?_))) | walk1 | (dsimp only; walk1) | (leave1; (try dsimp only)))
    obtain ⟨x1, x2, x3, x4⟩ := bads hxc
    have y1 : (Str.ofString "\"a\" ").length = 4 := by decide +kernel
    have y2 : (Str.ofString " \"b\"\n").length = 5 := by decide +kernel
    refine PyProof.Rows.add_str (hsz := by rw [sizeLine_eq]; omega) ?_
    intro t8 tk8
    (try dsimp only)
    repeat' (first | (k_unfold; (try dsimp only)) | (k_end; kc_close) | (first | ((with_reducible show wpAny _ _ (eval (Expr.ListComp _ _ _ _) _) _ _ _); with_reducible (with_reducible refine Stop.go ?_)) | ((with_reducible show wpAny _ _ (call (Value.ref _) _ _) _ _ _); first | ((with_unfolding_all show wpAny _ _ (call (Value.ref 183) [Value.ref _, Value.ref _]) _ _ _); with_reducible refine Stop.go ?_) | ((with_unfolding_all show wpAny _ _ (call (Value.ref 219) [Value.ref _]) _ _ _); with_reducible refine Stop.go ?_) | ((with_unfolding_all show wpAny _ _ (call (Value.ref 106) [Value.ref _]) _ _ _); with_reducible refine Stop.go ?_) | ((with_unfolding_all show wpAny _ _ (call (Value.ref 238) [Value.ref _]) _ _ _); with_reducible refine Stop.go ?_) | ((with_unfolding_all show wpAny _ _ (call (Value.ref 250) [Value.ref _, Value.ref _, Value.ref _]) _ _ _); with_reducible refine Stop.go ?_) | ((with_unfolding_all show wpAny _ _ (call (Value.ref 207) [Value.ref _, Value.str _ _, Value.int _ _]) _ _ _); with_reducible refine Stop.go ?_) | ((with_unfolding_all show wpAny _ _ (call (Value.ref 195) [Value.ref _]) _ _ _); with_reducible refine Stop.go ?_) | (k_here; (with_unfolding_all show wpAny _ _ (call (Value.ref 52) [Value.str _ _, Value.ref _]) _ _ _); (refine' table_call ?k9S ?k9F ?k9N ?k9hA ?k9hroom ?_; (case k9F => k_asm); (case k9S => assumption); (case k9N => k_asm); (case k9hA => rfl); (case k9hroom => walk_at "m_rm"); k_whole); walk_at "t_table_call_52s")) | ((with_reducible show wpAny _ _ (binaryOp _ (Value.ref _) (Value.ref _)) _ _ _); with_reducible (k_here; (with_reducible show wpAny _ _ (binaryOp _ (Value.ref _) (Value.ref _)) _ _ _); k_dflt (first | (refine' add_mineB ?k9F ?k9N ?k9a ?k9b ?k9i ?k9j ?k9y ?k9z ?k9k ?_; (case k9F => k_asm); (case k9N => k_asm); (case k9a => kmk_list); (case k9b => kmk_list); (case k9i => l_ints); (case k9j => l_ints); (case k9y => walk_at "m_bd"); (case k9z => walk_at "m_bd"); (case k9k => rfl); k_whole) | (refine' add_mine ?k9F ?k9N ?k9a ?k9b ?k9i ?k9j ?k9z ?_; (case k9F => k_asm); (case k9N => k_asm); (case k9a => kmk_list); (case k9b => kmk_list); (case k9i => l_ints); (case k9j => l_ints); (case k9z => ((try simp only [List.length_cons, List.length_nil]); omega)); k_whole)); walk_at "t_add_mineB")) | ((with_reducible show wpAny _ _ (exec (Stmt.While _ _ _ _) _) _ _ _); with_reducible (with_reducible refine Stop.go ?_))) | walk1 | (dsimp only; walk1) | (leave1; (try dsimp only)))
    walk_at "m_ord"
    case hsz => exact Nat.le_trans x3 (by omega)
    rename IntsAre _ (codesOf _) => hyd
    generalize hT : codesOf (Str.ofString "\"a\" " ++ x ++ Str.ofString " \"b\"\n") = cs9 at *
    rename (_ = Array.size _) => hyl
    have hyl2 := hyd.length
    have hyl3 : cs9.length ≤ 20 := by rw [← hyl2, hyl]; exact x3
    clear hyl hyl2
    (try dsimp only)
    repeat' (first | (k_unfold; (try dsimp only)) | (k_end; kc_close) | (first | ((with_reducible show wpAny _ _ (eval (Expr.ListComp _ _ _ _) _) _ _ _); with_reducible (with_reducible refine Stop.go ?_)) | ((with_reducible show wpAny _ _ (call (Value.ref _) _ _) _ _ _); first | ((with_unfolding_all show wpAny _ _ (call (Value.ref 183) [Value.ref _, Value.ref _]) _ _ _); with_reducible refine Stop.go ?_) | ((with_unfolding_all show wpAny _ _ (call (Value.ref 219) [Value.ref _]) _ _ _); with_reducible refine Stop.go ?_) | ((with_unfolding_all show wpAny _ _ (call (Value.ref 106) [Value.ref _]) _ _ _); with_reducible refine Stop.go ?_) | ((with_unfolding_all show wpAny _ _ (call (Value.ref 238) [Value.ref _]) _ _ _); with_reducible refine Stop.go ?_) | ((with_unfolding_all show wpAny _ _ (call (Value.ref 250) [Value.ref _, Value.ref _, Value.ref _]) _ _ _); with_reducible refine Stop.go ?_) | ((with_unfolding_all show wpAny _ _ (call (Value.ref 207) [Value.ref _, Value.str _ _, Value.int _ _]) _ _ _); with_reducible refine Stop.go ?_) | ((with_unfolding_all show wpAny _ _ (call (Value.ref 195) [Value.ref _]) _ _ _); with_reducible refine Stop.go ?_) | (k_here; (with_unfolding_all show wpAny _ _ (call (Value.ref 52) [Value.str _ _, Value.ref _]) _ _ _); (refine' table_call ?k9S ?k9F ?k9N ?k9hA ?k9hroom ?_; (case k9F => k_asm); (case k9S => assumption); (case k9N => k_asm); (case k9hA => rfl); (case k9hroom => walk_at "m_rm"); k_whole); walk_at "t_table_call_52s")) | ((with_reducible show wpAny _ _ (binaryOp _ (Value.ref _) (Value.ref _)) _ _ _); with_reducible (k_here; (with_reducible show wpAny _ _ (binaryOp _ (Value.ref _) (Value.ref _)) _ _ _); k_dflt (first | (refine' add_mineB ?k9F ?k9N ?k9a ?k9b ?k9i ?k9j ?k9y ?k9z ?k9k ?_; (case k9F => k_asm); (case k9N => k_asm); (case k9a => kmk_list); (case k9b => kmk_list); (case k9i => l_ints); (case k9j => l_ints); (case k9y => walk_at "m_bd"); (case k9z => walk_at "m_bd"); (case k9k => rfl); k_whole) | (refine' add_mine ?k9F ?k9N ?k9a ?k9b ?k9i ?k9j ?k9z ?_; (case k9F => k_asm); (case k9N => k_asm); (case k9a => kmk_list); (case k9b => kmk_list); (case k9i => l_ints); (case k9j => l_ints); (case k9z => ((try simp only [List.length_cons, List.length_nil]); omega)); k_whole)); walk_at "t_add_mineB")) | ((with_reducible show wpAny _ _ (exec (Stmt.While _ _ _ _) _) _ _ _); with_reducible (with_reducible refine Stop.go ?_))) | walk1 | (dsimp only; walk1) | (leave1; (try dsimp only)))
    rename Fr _ _ _ _ => FD
    rename News _ _ _ _ => ND
    refine Stop.go (lents_call S FD ND (ND.isList (.head _)) hyd (by omega) x4 rfl (by dsimp only [Around.deeper]; omega) (by dsimp only [Around.deeper]; omega) ?_ ?_)
    · intro _ h3 tk3 FE NE
      clear FD ND
      (try dsimp only)
      repeat' (first | (k_unfold; (try dsimp only)) | (k_end; kc_close) | (first | ((with_reducible show wpAny _ _ (eval (Expr.ListComp _ _ _ _) _) _ _ _); with_reducible (with_reducible refine Stop.go ?_)) | ((with_reducible show wpAny _ _ (call (Value.ref _) _ _) _ _ _); first | ((with_unfolding_all show wpAny _ _ (call (Value.ref 183) [Value.ref _, Value.ref _]) _ _ _); with_reducible refine Stop.go ?_) | ((with_unfolding_all show wpAny _ _ (call (Value.ref 219) [Value.ref _]) _ _ _); with_reducible refine Stop.go ?_) | ((with_unfolding_all show wpAny _ _ (call (Value.ref 106) [Value.ref _]) _ _ _); with_reducible refine Stop.go ?_) | ((with_unfolding_all show wpAny _ _ (call (Value.ref 238) [Value.ref _]) _ _ _); with_reducible refine Stop.go ?_) | ((with_unfolding_all show wpAny _ _ (call (Value.ref 250) [Value.ref _, Value.ref _, Value.ref _]) _ _ _); with_reducible refine Stop.go ?_) | ((with_unfolding_all show wpAny _ _ (call (Value.ref 207) [Value.ref _, Value.str _ _, Value.int _ _]) _ _ _); with_reducible refine Stop.go ?_) | ((with_unfolding_all show wpAny _ _ (call (Value.ref 195) [Value.ref _]) _ _ _); with_reducible refine Stop.go ?_) | (k_here; (with_unfolding_all show wpAny _ _ (call (Value.ref 52) [Value.str _ _, Value.ref _]) _ _ _); (refine' table_call ?k9S ?k9F ?k9N ?k9hA ?k9hroom ?_; (case k9F => k_asm); (case k9S => assumption); (case k9N => k_asm); (case k9hA => rfl); (case k9hroom => walk_at "m_rm"); k_whole); walk_at "t_table_call_52s")) | ((with_reducible show wpAny _ _ (binaryOp _ (Value.ref _) (Value.ref _)) _ _ _); with_reducible (k_here; (with_reducible show wpAny _ _ (binaryOp _ (Value.ref _) (Value.ref _)) _ _ _); k_dflt (first | (refine' add_mineB ?k9F ?k9N ?k9a ?k9b ?k9i ?k9j ?k9y ?k9z ?k9k ?_; (case k9F => k_asm); (case k9N => k_asm); (case k9a => kmk_list); (case k9b => kmk_list); (case k9i => l_ints); (case k9j => l_ints); (case k9y => walk_at "m_bd"); (case k9z => walk_at "m_bd"); (case k9k => rfl); k_whole) | (refine' add_mine ?k9F ?k9N ?k9a ?k9b ?k9i ?k9j ?k9z ?_; (case k9F => k_asm); (case k9N => k_asm); (case k9a => kmk_list); (case k9b => kmk_list); (case k9i => l_ints); (case k9j => l_ints); (case k9z => ((try simp only [List.length_cons, List.length_nil]); omega)); k_whole)); walk_at "t_add_mineB")) | ((with_reducible show wpAny _ _ (exec (Stmt.While _ _ _ _) _) _ _ _); with_reducible (with_reducible refine Stop.go ?_))) | walk1 | (dsimp only; walk1) | (leave1; (try dsimp only)))
      exact Stop.go ⟨rfl, _, _, rfl, FE, News.sub NE fun p hp => .tail _ hp⟩
    · intro es hes
      rw [x2] at hes; cases hes
  · intro g2 D h tk FD ND off
    clear F1 N1
    (try dsimp only)
    repeat' (first | (k_unfold; (try dsimp only)) | (k_end; kc_close) | (first | ((with_reducible show wpAny _ _ (eval (Expr.ListComp _ _ _ _) _) _ _ _); with_reducible (with_reducible refine Stop.go ?_)) | ((with_reducible show wpAny _ _ (call (Value.ref _) _ _) _ _ _); first | ((with_unfolding_all show wpAny _ _ (call (Value.ref 183) [Value.ref _, Value.ref _]) _ _ _); with_reducible refine Stop.go ?_) | ((with_unfolding_all show wpAny _ _ (call (Value.ref 219) [Value.ref _]) _ _ _); with_reducible refine Stop.go ?_) | ((with_unfolding_all show wpAny _ _ (call (Value.ref 106) [Value.ref _]) _ _ _); with_reducible refine Stop.go ?_) | ((with_unfolding_all show wpAny _ _ (call (Value.ref 238) [Value.ref _]) _ _ _); with_reducible refine Stop.go ?_) | ((with_unfolding_all show wpAny _ _ (call (Value.ref 250) [Value.ref _, Value.ref _, Value.ref _]) _ _ _); with_reducible refine Stop.go ?_) | ((with_unfolding_all show wpAny _ _ (call (Value.ref 207) [Value.ref _, Value.str _ _, Value.int _ _]) _ _ _); with_reducible refine Stop.go ?_) | ((with_unfolding_all show wpAny _ _ (call (Value.ref 195) [Value.ref _]) _ _ _); with_reducible refine Stop.go ?_) | (k_here; (with_unfolding_all show wpAny _ _ (call (Value.ref 52) [Value.str _ _, Value.ref _]) _ _ _); (refine' table_call ?k9S ?k9F ?k9N ?k9hA ?k9hroom ?_; (case k9F => k_asm); (case k9S => assumption); (case k9N => k_asm); (case k9hA => rfl); (case k9hroom => walk_at "m_rm"); k_whole); walk_at "t_table_call_52s")) | ((with_reducible show wpAny _ _ (binaryOp _ (Value.ref _) (Value.ref _)) _ _ _); with_reducible (k_here; (with_reducible show wpAny _ _ (binaryOp _ (Value.ref _) (Value.ref _)) _ _ _); k_dflt (first | (refine' add_mineB ?k9F ?k9N ?k9a ?k9b ?k9i ?k9j ?k9y ?k9z ?k9k ?_; (case k9F => k_asm); (case k9N => k_asm); (case k9a => kmk_list); (case k9b => kmk_list); (case k9i => l_ints); (case k9j => l_ints); (case k9y => walk_at "m_bd"); (case k9z => walk_at "m_bd"); (case k9k => rfl); k_whole) | (refine' add_mine ?k9F ?k9N ?k9a ?k9b ?k9i ?k9j ?k9z ?_; (case k9F => k_asm); (case k9N => k_asm); (case k9a => kmk_list); (case k9b => kmk_list); (case k9i => l_ints); (case k9j => l_ints); (case k9z => ((try simp only [List.length_cons, List.length_nil]); omega)); k_whole)); walk_at "t_add_mineB")) | ((with_reducible show wpAny _ _ (exec (Stmt.While _ _ _ _) _) _ _ _); with_reducible (with_reducible refine Stop.go ?_))) | walk1 | (dsimp only; walk1) | (leave1; (try dsimp only)))
    refine Stop.go (comp_rule (by assumption) rfl (by decide) rfl (by decide) rfl ?_ (fun _ => rfl))
    (try dsimp only)
    repeat' (first | (k_unfold; (try dsimp only)) | (k_end; kc_close) | (first | ((with_reducible show wpAny _ _ (eval (Expr.ListComp _ _ _ _) _) _ _ _); with_reducible (with_reducible refine Stop.go ?_)) | ((with_reducible show wpAny _ _ (call (Value.ref _) _ _) _ _ _); first | ((with_unfolding_all show wpAny _ _ (call (Value.ref 183) [Value.ref _, Value.ref _]) _ _ _); with_reducible refine Stop.go ?_) | ((with_unfolding_all show wpAny _ _ (call (Value.ref 219) [Value.ref _]) _ _ _); with_reducible refine Stop.go ?_) | ((with_unfolding_all show wpAny _ _ (call (Value.ref 106) [Value.ref _]) _ _ _); with_reducible refine Stop.go ?_) | ((with_unfolding_all show wpAny _ _ (call (Value.ref 238) [Value.ref _]) _ _ _); with_reducible refine Stop.go ?_) | ((with_unfolding_all show wpAny _ _ (call (Value.ref 250) [Value.ref _, Value.ref _, Value.ref _]) _ _ _); with_reducible refine Stop.go ?_) | ((with_unfolding_all show wpAny _ _ (call (Value.ref 207) [Value.ref _, Value.str _ _, Value.int _ _]) _ _ _); with_reducible refine Stop.go ?_) | ((with_unfolding_all show wpAny _ _ (call (Value.ref 195) [Value.ref _]) _ _ _); with_reducible refine Stop.go ?_) | (k_here; (with_unfolding_all show wpAny _ _ (call (Value.ref 52) [Value.str _ _, Value.ref _]) _ _ _); (refine' table_call ?k9S ?k9F ?k9N ?k9hA ?k9hroom ?_; (case k9F => k_asm); (case k9S => assumption); (case k9N => k_asm); (case k9hA => rfl); (case k9hroom => walk_at "m_rm"); k_whole); walk_at "t_table_call_52s")) | ((with_reducible show wpAny _ _ (binaryOp _ (Value.ref _) (Value.ref _)) _ _ _); with_reducible (k_here; (with_reducible show wpAny _ _ (binaryOp _ (Value.ref _) (Value.ref _)) _ _ _); k_dflt (first | (refine' add_mineB ?k9F ?k9N ?k9a ?k9b ?k9i ?k9j ?k9y ?k9z ?k9k ?_; (case k9F => k_asm); (case k9N => k_asm); (case k9a => kmk_list); (case k9b => kmk_list); (case k9i => l_ints); (case k9j => l_ints); (case k9y => walk_at "m_bd"); (case k9z => walk_at "m_bd"); (case k9k => rfl); k_whole) | (refine' add_mine ?k9F ?k9N ?k9a ?k9b ?k9i ?k9j ?k9z ?_; (case k9F => k_asm); (case k9N => k_asm); (case k9a => kmk_list); (case k9b => kmk_list); (case k9i => l_ints); (case k9j => l_ints); (case k9z => ((try simp only [List.length_cons, List.length_nil]); omega)); k_whole)); walk_at "t_add_mineB")) | ((with_reducible show wpAny _ _ (exec (Stmt.While _ _ _ _) _) _ _ _); with_reducible (with_reducible refine Stop.go ?_))) | walk1 | (dsimp only; walk1) | (leave1; (try dsimp only)))
    walk_at "m_ord"
    case hsz => decide +kernel
    rename IntsAre _ (codesOf _) => hyd
    rw [show codesOf (Str.ofString "\"a\" 01 \"b\"\n") = [34, 97, 34, 32, 48, 49, 32, 34, 98, 34, 10] from by decide +kernel] at hyd
    (try dsimp only)
    repeat' (first | (k_unfold; (try dsimp only)) | (k_end; kc_close) | (first | ((with_reducible show wpAny _ _ (eval (Expr.ListComp _ _ _ _) _) _ _ _); with_reducible (with_reducible refine Stop.go ?_)) | ((with_reducible show wpAny _ _ (call (Value.ref _) _ _) _ _ _); first | ((with_unfolding_all show wpAny _ _ (call (Value.ref 183) [Value.ref _, Value.ref _]) _ _ _); with_reducible refine Stop.go ?_) | ((with_unfolding_all show wpAny _ _ (call (Value.ref 219) [Value.ref _]) _ _ _); with_reducible refine Stop.go ?_) | ((with_unfolding_all show wpAny _ _ (call (Value.ref 106) [Value.ref _]) _ _ _); with_reducible refine Stop.go ?_) | ((with_unfolding_all show wpAny _ _ (call (Value.ref 238) [Value.ref _]) _ _ _); with_reducible refine Stop.go ?_) | ((with_unfolding_all show wpAny _ _ (call (Value.ref 250) [Value.ref _, Value.ref _, Value.ref _]) _ _ _); with_reducible refine Stop.go ?_) | ((with_unfolding_all show wpAny _ _ (call (Value.ref 207) [Value.ref _, Value.str _ _, Value.int _ _]) _ _ _); with_reducible refine Stop.go ?_) | ((with_unfolding_all show wpAny _ _ (call (Value.ref 195) [Value.ref _]) _ _ _); with_reducible refine Stop.go ?_) | (k_here; (with_unfolding_all show wpAny _ _ (call (Value.ref 52) [Value.str _ _, Value.ref _]) _ _ _); (refine' table_call ?k9S ?k9F ?k9N ?k9hA ?k9hroom ?_; (case k9F => k_asm); (case k9S => assumption); (case k9N => k_asm); (case k9hA => rfl); (case k9hroom => walk_at "m_rm"); k_whole); walk_at "t_table_call_52s")) | ((with_reducible show wpAny _ _ (binaryOp _ (Value.ref _) (Value.ref _)) _ _ _); with_reducible (k_here; (with_reducible show wpAny _ _ (binaryOp _ (Value.ref _) (Value.ref _)) _ _ _); k_dflt (first | (refine' add_mineB ?k9F ?k9N ?k9a ?k9b ?k9i ?k9j ?k9y ?k9z ?k9k ?_; (case k9F => k_asm); (case k9N => k_asm); (case k9a => kmk_list); (case k9b => kmk_list); (case k9i => l_ints); (case k9j => l_ints); (case k9y => walk_at "m_bd"); (case k9z => walk_at "m_bd"); (case k9k => rfl); k_whole) | (refine' add_mine ?k9F ?k9N ?k9a ?k9b ?k9i ?k9j ?k9z ?_; (case k9F => k_asm); (case k9N => k_asm); (case k9a => kmk_list); (case k9b => kmk_list); (case k9i => l_ints); (case k9j => l_ints); (case k9z => ((try simp only [List.length_cons, List.length_nil]); omega)); k_whole)); walk_at "t_add_mineB")) | ((with_reducible show wpAny _ _ (exec (Stmt.While _ _ _ _) _) _ _ _); with_reducible (with_reducible refine Stop.go ?_))) | walk1 | (dsimp only; walk1) | (leave1; (try dsimp only)))
    rename Fr _ _ _ _ => FE
    rename News _ _ _ _ => NE
    rename_i l9 _ _ ax9 adx9 en9 _ _ _ _ oE9 _ _ l39 lo9 hs9 _ _ l49 ys9 _ _ D9 _ _ _ lb9 _ _
    refine Stop.go (alike_call (ex := []) (es := []) (kvs := []) (vb := []) (cs := [34, 97, 34, 32, 48, 49, 32, 34, 98, 34, 10]) (bs := []) S FE NE mm2 mm3 mm4 mm1 (.head _) (by simp) hs9 lo9 l39.2 trivial (by simp) (by simp) hyd .nil (by decide) (by decide) (fun _ => textF_nil.symm) (fun _ => rfl) rfl rfl (by omega) (by omega) ?_)
    intro h5 tk5 FF hN5
    (try dsimp only)
    exact k _ _ _ FF
end
end

section
local macro_rules | `(tactic| k_qdec) => `(tactic| decide +kernel)


noncomputable def RowOk (e : Ent) : Prop := e.1.length ≤ 2 ∧ e.2.2.1.length ≤ 4 ∧ (∀ c ∈ e.1, 0 ≤ c ∧ c < 1000) ∧ (∀ c ∈ e.2.2.1, 0 ≤ c ∧ c < 1000) ∧ 0 ≤ e.2.1 ∧ e.2.1 < 1000
theorem rowOk_ent {e : Ent} (h : RowOk e) : EntOk e := by
  obtain ⟨h1, h2, h3, h4, h5, h6⟩ := h
  exact ⟨by omega, by omega, fun c hc => ⟨(h3 c hc).1, by have := (h3 c hc).2; omega⟩, fun c hc => ⟨(h4 c hc).1, by have := (h4 c hc).2; omega⟩, h5, log2_of h5 (n := 3) (by omega) (by omega)⟩
theorem row_len {e : Ent} (h : RowOk e) : (rowE e).length ≤ 35 := by
  obtain ⟨h1, h2, h3, h4, h5, h6⟩ := h
  have q1 := showF_len e.1
  have q2 := showF_len e.2.2.1
  have q3 : (digF e.2.1).length ≤ 10 := by
    unfold digF codesOf
    have : (textOf e.2.1).cps.size ≤ 10 := by
      show (textOf e.2.1).length ≤ 10
      unfold textOf
      rw [PySem.ofString_length]
      have := PySem.int_text_length_le10 (a := e.2.1) (k := 3) (by omega) (by omega)
      omega
    simpa using this
  unfold rowE rowF
  have q4 : (if e.2.2.2 = true then [32, 101, 120, 97, 99, 116] else ([] : List Int)).length ≤ 6 := by split <;> simp
  simp only [List.length_append, List.length_cons, List.length_nil]
  omega
theorem rows_len : ∀ {es : List Ent}, (∀ e ∈ es, RowOk e) → (es.flatMap rowE).length ≤ 35 * es.length
  | [], _ => by simp
  | e :: es, h => by
    have h1 := row_len (h e (.head _))
    have h2 := rows_len (es := es) fun x hx => h x (.tail _ hx)
    simp only [List.flatMap_cons, List.length_append, List.length_cons]
    omega
theorem dig_codes {u : Int} (h : 0 ≤ u) : ∀ c ∈ digF u, 0 ≤ c ∧ c < 1000 := by
  intro c hc
  unfold digF codesOf at hc
  rw [textOf_cps h] at hc
  obtain ⟨d, hd, rfl⟩ := List.mem_map.mp hc
  obtain ⟨ch, h9, rfl⟩ := List.mem_map.mp hd
  have := Nat.isDigit_of_mem_toDigits (by decide) (by decide) h9
  simp only [Char.isDigit, Bool.and_eq_true, decide_eq_true_eq, ge_iff_le] at this
  have h1 : ch.toNat ≤ 57 := this.2
  exact ⟨by simp, by show ((ch.toNat : Nat) : Int) < 1000; omega⟩
theorem show_codes {w : List Int} (h : ∀ c ∈ w, 0 ≤ c ∧ c < 1000) : ∀ c ∈ showF w, 0 ≤ c ∧ c < 1000 := by
  intro c hc
  unfold showF at hc
  simp only [List.mem_append, List.mem_flatMap, List.mem_singleton] at hc
  rcases hc with (rfl | ⟨d, hd, hc⟩) | rfl
  · decide
  · have := h d hd
    unfold esc1 at hc
    split at hc
    · simp only [List.mem_cons, List.not_mem_nil, or_false] at hc
      rcases hc with rfl | rfl
      · decide
      · exact this
    · split at hc
      · simp only [List.mem_cons, List.not_mem_nil, or_false] at hc
        rcases hc with rfl | rfl <;> decide
      · simp only [List.mem_singleton] at hc
        subst hc; exact this
  · decide
theorem app_codes {a b : List Int} (h : ∀ c ∈ a, 0 ≤ c ∧ c < 1000) (k : ∀ c ∈ b, 0 ≤ c ∧ c < 1000) : ∀ c ∈ a ++ b, 0 ≤ c ∧ c < 1000 := fun c hc => (List.mem_append.mp hc).elim (h c) (k c)
theorem row_codes {e : Ent} (h : RowOk e) : ∀ c ∈ rowE e, 0 ≤ c ∧ c < 1000 := by
  obtain ⟨h1, h2, h3, h4, h5, h6⟩ := h
  have q1 := show_codes h3
  have q2 := show_codes h4
  have q3 := dig_codes h5
  have q4 : ∀ c ∈ (if e.2.2.2 = true then [32, 101, 120, 97, 99, 116] else ([] : List Int)), 0 ≤ c ∧ c < 1000 := by
    intro c hc
    split at hc
    · revert c; decide
    · nomatch hc
  have q5 : ∀ c ∈ [(32 : Int)], 0 ≤ c ∧ c < 1000 := by decide
  have q6 : ∀ c ∈ [(10 : Int)], 0 ≤ c ∧ c < 1000 := by decide
  unfold rowE rowF
  repeat (first | assumption | refine app_codes ?_ ?_)
inductive LaI (D l' : Addr) (i : Nat) (m : Str → Option Value) (nw : List (Addr × Obj)) : Prop
  | mk (acc : List Value) (na : Nat) (vs : List Value) (ns : List Int) (n : Nat) (exx : List (Addr × Obj)) (es : List Ent) (e0 : m (Str.ofString "_law_deck") = some (.ref D)) (e1 : m (Str.ofString "_law_entries") = some (.ref l')) (e2 : nw = (l', listOf (List.toArray acc) na) :: (D, listOf (List.toArray vs) n) :: exx) (e3 : ∀ q ∈ exx, q.1 ≠ l') (e4 : ∀ q ∈ exx, q.1 ≠ D) (e5 : @Ne Nat l' D) (e6 : IntsAre vs ns) (e7 : DeckOk ns) (e8 : Rels (TupIn exx) acc es) (e9 : es.length = i) (e10 : ∀ e ∈ es, RowOk e) : LaI D l' i m nw
inductive LaK (D D3 : Addr) (ys : List Value) (i : Nat) (m : Str → Option Value) (nw : List (Addr × Obj)) : Prop
  | mk (vs : List Value) (ns : List Int) (n : Nat) (e0 : m (Str.ofString "_law_deck") = some (.ref D)) (e1 : m (Str.ofString "_law_codes") = some (.ref D3)) (e2 : nw = [(D3, LCg.lst ys), (D, listOf (List.toArray vs) n)]) (e3 : IntsAre vs ns) (e4 : DeckOk ns) : LaK D D3 ys i m nw
inductive LaF (D l' : Addr) (acc : List Value) (na : Nat) (vs : List Value) (n : Nat) (exx : List (Addr × Obj)) (es : List Ent) (i : Nat) (ys : List Value) (nw : List (Addr × Obj)) : Prop
  | mk (ex2 : List (Addr × Obj)) (e0 : nw = (l', listOf (List.toArray acc) na) :: (D, listOf (List.toArray vs) n) :: ex2) (e1 : ∀ p ∈ exx, p ∈ ex2) (e2 : ∀ q ∈ ex2, q.1 ≠ l') (e3 : ∀ q ∈ ex2, q.1 ≠ D) (e4 : IntsAre ys ((es.take i).flatMap rowE)) : LaF D l' acc na vs n exx es i ys nw
theorem laB {acc es : List Value} {x : Nat} (h : acc.length = x) (k : x ≤ 1000) : acc.length ≤ 16777216 := by omega
set_option maxHeartbeats 8000000 in
theorem law_holds : PySem.Challenge.rw_on0064_01.Holds := by
  w_on
  refine holds_law said9 fun said => ?_
  refine holds_open (q := hd.view_39) (loose := [Str.ofString "EXACT"]) (Xt := fun s => xlAt hd.view_39 [] s && recOk (RowW.records (OpenRow.toRowW PySem.Challenge.rw_on0064_01.row)) s) (XP := XL hd.view_39 []) (Yf := Hook.obs (kHook hd.heap_39 as9 as9_ok)) (Ya := Hook.val (kHook hd.heap_39 as9 as9_ok)) (YP := Hook.says (kHook hd.heap_39 as9 as9_ok)) (N := 3610) left9 (Hook.of (kHook hd.heap_39 as9 as9_ok)) (Hook.keeps (kHook hd.heap_39 as9 as9_ok)) (fun s e => xl_of s (Bool.and_eq_true_iff.mp e).1) XL.keeps (by rfl) (by rfl) (by rfl) (fun s e => recFacts_of (Bool.and_eq_true_iff.mp e).2) (by rfl) (by first | assumption | decide +kernel) (by decide +kernel) ⟨rfl, rfl, rfl, rfl, rfl, by decide +kernel⟩ ?hw ?hc
  case hw => w_witness2
  clear said
  k_go0
  all_goals try k_fold
  rename Top _ _ _ _ _ _ => T
  rename Fr _ _ _ _ => F
  rename News _ _ _ [] => N
  rename Heap.IsList _ _ _ => hL
  rename IntsAre _ _ => hi
  have S : Sx _ _ _ _ _ := ⟨by assumption, T⟩
  obtain ⟨dp, gd, un, hcA, hdp, hun⟩ : ∃ dp gd un, callerA = ⟨none, dp, some [], gd, un⟩ ∧ dp + 500 < recursionLimit ∧ un ≤ 100 := ⟨_, _, _, rfl, by decide +kernel, by decide +kernel⟩
  rw [hcA]
  clear hcA
  repeat' (first | (k_unfold; (try dsimp only)) | (k_end; kc_close) | (first | ((with_reducible show wpAny _ _ (eval (Expr.ListComp _ _ _ _) _) _ _ _); with_reducible (with_reducible refine Stop.go ?_)) | ((with_reducible show wpAny _ _ (call (Value.ref _) _ _) _ _ _); first | ((with_unfolding_all show wpAny _ _ (call (Value.ref 183) [Value.ref _, Value.ref _]) _ _ _); with_reducible refine Stop.go ?_) | ((with_unfolding_all show wpAny _ _ (call (Value.ref 219) [Value.ref _]) _ _ _); with_reducible refine Stop.go ?_) | ((with_unfolding_all show wpAny _ _ (call (Value.ref 106) [Value.ref _]) _ _ _); with_reducible refine Stop.go ?_) | ((with_unfolding_all show wpAny _ _ (call (Value.ref 238) [Value.ref _]) _ _ _); with_reducible refine Stop.go ?_) | ((with_unfolding_all show wpAny _ _ (call (Value.ref 250) [Value.ref _, Value.ref _, Value.ref _]) _ _ _); with_reducible refine Stop.go ?_) | ((with_unfolding_all show wpAny _ _ (call (Value.ref 207) [Value.ref _, Value.str _ _, Value.int _ _]) _ _ _); with_reducible refine Stop.go ?_) | ((with_unfolding_all show wpAny _ _ (call (Value.ref 195) [Value.ref _]) _ _ _); with_reducible refine Stop.go ?_) | (k_here; (with_unfolding_all show wpAny _ _ (call (Value.ref 202) [Value.ref _, Value.ref _]) _ _ _); (refine' one_ints_call ?k9S ?k9F ?k9N ?k9U ?k9hi ?k9hD ?k9hq ?k9hz ?k9hlq ?k9hx0 ?k9hx1 ?k9hA ?k9hroom ?k9hu ?_; (case k9F => k_asm); (case k9S => assumption); (case k9N => k_asm); (case k9U => k_updF); (case k9hi => assumption); (case k9hD => assumption); (case k9hq => is_list); (case k9hz => l_ints); (case k9hlq => first | assumption | omega); (case k9hx0 => first | assumption | decide | (simp only [List.length_cons]; omega)); (case k9hx1 => first | assumption | decide | (simp only [List.length_cons, List.length_nil]; omega)); (case k9hA => rfl); (case k9hroom => walk_at "m_rm"); (case k9hu => walk_at "m_rm"); k_whole); walk_at "t_one_ints_call_202") | (k_here; (with_unfolding_all show wpAny _ _ (call (Value.ref 190) [Value.ref _, Value.int _ _]) _ _ _); (refine' draw_call ?k9S ?k9F ?k9N ?k9U ?k9hi ?k9hD ?k9hm0 ?k9hm1 ?k9hA ?k9hroom ?k9hu ?_; (case k9F => k_asm); (case k9S => assumption); (case k9N => k_asm); (case k9U => k_updF); (case k9hi => assumption); (case k9hD => assumption); (case k9hm0 => first | assumption | omega); (case k9hm1 => first | assumption | omega); (case k9hA => rfl); (case k9hroom => walk_at "m_rm"); (case k9hu => walk_at "m_rm"); k_whole); walk_at "t_draw_call_190") | (k_here; (with_unfolding_all show wpAny _ _ (call (Value.ref 52) [Value.str _ _, Value.ref _]) _ _ _); (refine' table_call ?k9S ?k9F ?k9N ?k9hA ?k9hroom ?_; (case k9F => k_asm); (case k9S => assumption); (case k9N => k_asm); (case k9hA => rfl); (case k9hroom => walk_at "m_rm"); k_whole); walk_at "t_table_call_52s")) | ((with_reducible show wpAny _ _ (eval (Expr.IfExp _ _ _ _) _) _ _ _); with_reducible (with_reducible refine Stop.go ?_)) | ((with_reducible show wpAny _ _ (exec (Stmt.For _ _ _ _ _) _) _ _ _); with_reducible (k_here; (with_unfolding_all (refine' For_mine ?_ ?k9hs; (case k9hs => intro _; rfl))))) | ((with_reducible show wpAny _ _ (exec (Stmt.While _ _ _ _) _) _ _ _); with_reducible (with_reducible refine Stop.go ?_))) | walk1 | (dsimp only; walk1) | (leave1; (try dsimp only)))
  refine Stop.go (deckof_call S F N (isList_keeps hL F.keep) hi (by omega) rfl (by dsimp only [Around.deeper]; omega) (by dsimp only [Around.deeper]; omega) ?_)
  intro D vs1 ns1 n1 h1 tk1 hne1 F1 N1 hi1 hD1
  clear F N
  (try dsimp only)
  repeat' (first | (k_unfold; (try dsimp only)) | (k_end; kc_close) | (first | ((with_reducible show wpAny _ _ (eval (Expr.ListComp _ _ _ _) _) _ _ _); with_reducible (with_reducible refine Stop.go ?_)) | ((with_reducible show wpAny _ _ (call (Value.ref _) _ _) _ _ _); first | ((with_unfolding_all show wpAny _ _ (call (Value.ref 183) [Value.ref _, Value.ref _]) _ _ _); with_reducible refine Stop.go ?_) | ((with_unfolding_all show wpAny _ _ (call (Value.ref 219) [Value.ref _]) _ _ _); with_reducible refine Stop.go ?_) | ((with_unfolding_all show wpAny _ _ (call (Value.ref 106) [Value.ref _]) _ _ _); with_reducible refine Stop.go ?_) | ((with_unfolding_all show wpAny _ _ (call (Value.ref 238) [Value.ref _]) _ _ _); with_reducible refine Stop.go ?_) | ((with_unfolding_all show wpAny _ _ (call (Value.ref 250) [Value.ref _, Value.ref _, Value.ref _]) _ _ _); with_reducible refine Stop.go ?_) | ((with_unfolding_all show wpAny _ _ (call (Value.ref 207) [Value.ref _, Value.str _ _, Value.int _ _]) _ _ _); with_reducible refine Stop.go ?_) | ((with_unfolding_all show wpAny _ _ (call (Value.ref 195) [Value.ref _]) _ _ _); with_reducible refine Stop.go ?_) | (k_here; (with_unfolding_all show wpAny _ _ (call (Value.ref 202) [Value.ref _, Value.ref _]) _ _ _); (refine' one_ints_call ?k9S ?k9F ?k9N ?k9U ?k9hi ?k9hD ?k9hq ?k9hz ?k9hlq ?k9hx0 ?k9hx1 ?k9hA ?k9hroom ?k9hu ?_; (case k9F => k_asm); (case k9S => assumption); (case k9N => k_asm); (case k9U => k_updF); (case k9hi => assumption); (case k9hD => assumption); (case k9hq => is_list); (case k9hz => l_ints); (case k9hlq => first | assumption | omega); (case k9hx0 => first | assumption | decide | (simp only [List.length_cons]; omega)); (case k9hx1 => first | assumption | decide | (simp only [List.length_cons, List.length_nil]; omega)); (case k9hA => rfl); (case k9hroom => walk_at "m_rm"); (case k9hu => walk_at "m_rm"); k_whole); walk_at "t_one_ints_call_202") | (k_here; (with_unfolding_all show wpAny _ _ (call (Value.ref 190) [Value.ref _, Value.int _ _]) _ _ _); (refine' draw_call ?k9S ?k9F ?k9N ?k9U ?k9hi ?k9hD ?k9hm0 ?k9hm1 ?k9hA ?k9hroom ?k9hu ?_; (case k9F => k_asm); (case k9S => assumption); (case k9N => k_asm); (case k9U => k_updF); (case k9hi => assumption); (case k9hD => assumption); (case k9hm0 => first | assumption | omega); (case k9hm1 => first | assumption | omega); (case k9hA => rfl); (case k9hroom => walk_at "m_rm"); (case k9hu => walk_at "m_rm"); k_whole); walk_at "t_draw_call_190") | (k_here; (with_unfolding_all show wpAny _ _ (call (Value.ref 52) [Value.str _ _, Value.ref _]) _ _ _); (refine' table_call ?k9S ?k9F ?k9N ?k9hA ?k9hroom ?_; (case k9F => k_asm); (case k9S => assumption); (case k9N => k_asm); (case k9hA => rfl); (case k9hroom => walk_at "m_rm"); k_whole); walk_at "t_table_call_52s")) | ((with_reducible show wpAny _ _ (eval (Expr.IfExp _ _ _ _) _) _ _ _); with_reducible (with_reducible refine Stop.go ?_)) | ((with_reducible show wpAny _ _ (exec (Stmt.For _ _ _ _ _) _) _ _ _); with_reducible (k_here; (with_unfolding_all (refine' For_mine ?_ ?k9hs; (case k9hs => intro _; rfl))))) | ((with_reducible show wpAny _ _ (exec (Stmt.While _ _ _ _) _) _ _ _); with_reducible (with_reducible refine Stop.go ?_))) | walk1 | (dsimp only; walk1) | (leave1; (try dsimp only)))
  rename IsRange _ _ _ _ _ _ _ _ => hr
  rename Fr _ _ _ _ => F2
  rename News _ _ _ _ => N2
  rename_i l' _ _ _ _ _ _ _ _ dr _ _ _ vs2 ns2 n2 dr0 dr1 hi2 hD2 _ _ h2 _ _ _ _ _
  refine Stop.go (for_range (n := dr.toNat) (LaI D l') rfl F2 (News.sub (news' := [(l', listOf #[] 0), (D, listOf (List.toArray vs2) n2)]) N2 fun p hp => .tail _ hp) hr (by omega) (by omega) ?_ ?_ ?_ rfl rfl (by passes_own))
  · exact ⟨[], 0, vs2, ns2, n2, [], [], rfl, rfl, rfl, by simp, by simp, by omega, hi2, hD2, trivial, rfl, by simp⟩
  · rintro I i v m₁ nw oI h tk hi ⟨acc, na, vs, ns, n, exx, es, m1, m2, rfl, q1, q2, q3, hi3, hD3, hR, hlen, hrow⟩ hne F3 N3 --D
    have hn1 : @Ne Nat l' I := hne.1
    have hn2 : @Ne Nat D I := hne.2.1
    have hn3 := hne.2.2
    have hal := hR.length
    have hab : acc.length ≤ 16777216 := laA hal hlen hi dr0 dr1
    have q3' : @Ne Nat D l' := fun e => q3 e.symm
    have q3a : @Ne Nat l' D := q3
    clear hal
    (try dsimp only)
    repeat' (first | (k_unfold; (try dsimp only)) | (k_end; kc_close) | (first | ((with_reducible show wpAny _ _ (eval (Expr.ListComp _ _ _ _) _) _ _ _); with_reducible (with_reducible refine Stop.go ?_)) | ((with_reducible show wpAny _ _ (call (Value.ref _) _ _) _ _ _); first | ((with_unfolding_all show wpAny _ _ (call (Value.ref 183) [Value.ref _, Value.ref _]) _ _ _); with_reducible refine Stop.go ?_) | ((with_unfolding_all show wpAny _ _ (call (Value.ref 219) [Value.ref _]) _ _ _); with_reducible refine Stop.go ?_) | ((with_unfolding_all show wpAny _ _ (call (Value.ref 106) [Value.ref _]) _ _ _); with_reducible refine Stop.go ?_) | ((with_unfolding_all show wpAny _ _ (call (Value.ref 238) [Value.ref _]) _ _ _); with_reducible refine Stop.go ?_) | ((with_unfolding_all show wpAny _ _ (call (Value.ref 250) [Value.ref _, Value.ref _, Value.ref _]) _ _ _); with_reducible refine Stop.go ?_) | ((with_unfolding_all show wpAny _ _ (call (Value.ref 207) [Value.ref _, Value.str _ _, Value.int _ _]) _ _ _); with_reducible refine Stop.go ?_) | ((with_unfolding_all show wpAny _ _ (call (Value.ref 195) [Value.ref _]) _ _ _); with_reducible refine Stop.go ?_) | (k_here; (with_unfolding_all show wpAny _ _ (call (Value.ref 202) [Value.ref _, Value.ref _]) _ _ _); (refine' one_ints_call ?k9S ?k9F ?k9N ?k9U ?k9hi ?k9hD ?k9hq ?k9hz ?k9hlq ?k9hx0 ?k9hx1 ?k9hA ?k9hroom ?k9hu ?_; (case k9F => k_asm); (case k9S => assumption); (case k9N => k_asm); (case k9U => k_updF); (case k9hi => assumption); (case k9hD => assumption); (case k9hq => is_list); (case k9hz => l_ints); (case k9hlq => first | assumption | omega); (case k9hx0 => first | assumption | decide | (simp only [List.length_cons]; omega)); (case k9hx1 => first | assumption | decide | (simp only [List.length_cons, List.length_nil]; omega)); (case k9hA => rfl); (case k9hroom => walk_at "m_rm"); (case k9hu => walk_at "m_rm"); k_whole); walk_at "t_one_ints_call_202") | (k_here; (with_unfolding_all show wpAny _ _ (call (Value.ref 190) [Value.ref _, Value.int _ _]) _ _ _); (refine' draw_call ?k9S ?k9F ?k9N ?k9U ?k9hi ?k9hD ?k9hm0 ?k9hm1 ?k9hA ?k9hroom ?k9hu ?_; (case k9F => k_asm); (case k9S => assumption); (case k9N => k_asm); (case k9U => k_updF); (case k9hi => assumption); (case k9hD => assumption); (case k9hm0 => first | assumption | omega); (case k9hm1 => first | assumption | omega); (case k9hA => rfl); (case k9hroom => walk_at "m_rm"); (case k9hu => walk_at "m_rm"); k_whole); walk_at "t_draw_call_190") | (k_here; (with_unfolding_all show wpAny _ _ (call (Value.ref 52) [Value.str _ _, Value.ref _]) _ _ _); (refine' table_call ?k9S ?k9F ?k9N ?k9hA ?k9hroom ?_; (case k9F => k_asm); (case k9S => assumption); (case k9N => k_asm); (case k9hA => rfl); (case k9hroom => walk_at "m_rm"); k_whole); walk_at "t_table_call_52s")) | ((with_reducible show wpAny _ _ (eval (Expr.IfExp _ _ _ _) _) _ _ _); with_reducible (with_reducible refine Stop.go ?_)) | ((with_reducible show wpAny _ _ (exec (Stmt.For _ _ _ _ _) _) _ _ _); with_reducible (k_here; (with_unfolding_all (refine' For_mine ?_ ?k9hs; (case k9hs => intro _; rfl))))) | ((with_reducible show wpAny _ _ (exec (Stmt.While _ _ _ _) _) _ _ _); with_reducible (with_reducible refine Stop.go ?_))) | walk1 | (dsimp only; walk1) | (leave1; (try dsimp only)))
    refine Stop.go (some_call S F3 N3 (by k_updF) hi3 hD3 (by decide) (by decide) (by omega) (by omega) rfl (by dsimp only [Around.deeper]; omega) (by dsimp only [Around.deeper]; omega) ?_)
    intro Dw zw cw nzw h4 tk4 vs4 ns4 n4 hi4 hD4 hzw hzwl hzwc hne4 F4 N4
    have o1 : @Ne Nat I Dw := hne4.1
    have o2 : @Ne Nat l' Dw := hne4.2.1
    have o3 : @Ne Nat D Dw := hne4.2.2.1
    clear hne4
    clear F3 N3
    (try dsimp only)
    repeat' (first | (k_unfold; (try dsimp only)) | (k_end; kc_close) | (first | ((with_reducible show wpAny _ _ (eval (Expr.ListComp _ _ _ _) _) _ _ _); with_reducible (with_reducible refine Stop.go ?_)) | ((with_reducible show wpAny _ _ (call (Value.ref _) _ _) _ _ _); first | ((with_unfolding_all show wpAny _ _ (call (Value.ref 183) [Value.ref _, Value.ref _]) _ _ _); with_reducible refine Stop.go ?_) | ((with_unfolding_all show wpAny _ _ (call (Value.ref 219) [Value.ref _]) _ _ _); with_reducible refine Stop.go ?_) | ((with_unfolding_all show wpAny _ _ (call (Value.ref 106) [Value.ref _]) _ _ _); with_reducible refine Stop.go ?_) | ((with_unfolding_all show wpAny _ _ (call (Value.ref 238) [Value.ref _]) _ _ _); with_reducible refine Stop.go ?_) | ((with_unfolding_all show wpAny _ _ (call (Value.ref 250) [Value.ref _, Value.ref _, Value.ref _]) _ _ _); with_reducible refine Stop.go ?_) | ((with_unfolding_all show wpAny _ _ (call (Value.ref 207) [Value.ref _, Value.str _ _, Value.int _ _]) _ _ _); with_reducible refine Stop.go ?_) | ((with_unfolding_all show wpAny _ _ (call (Value.ref 195) [Value.ref _]) _ _ _); with_reducible refine Stop.go ?_) | (k_here; (with_unfolding_all show wpAny _ _ (call (Value.ref 202) [Value.ref _, Value.ref _]) _ _ _); (refine' one_ints_call ?k9S ?k9F ?k9N ?k9U ?k9hi ?k9hD ?k9hq ?k9hz ?k9hlq ?k9hx0 ?k9hx1 ?k9hA ?k9hroom ?k9hu ?_; (case k9F => k_asm); (case k9S => assumption); (case k9N => k_asm); (case k9U => k_updF); (case k9hi => assumption); (case k9hD => assumption); (case k9hq => is_list); (case k9hz => l_ints); (case k9hlq => first | assumption | omega); (case k9hx0 => first | assumption | decide | (simp only [List.length_cons]; omega)); (case k9hx1 => first | assumption | decide | (simp only [List.length_cons, List.length_nil]; omega)); (case k9hA => rfl); (case k9hroom => walk_at "m_rm"); (case k9hu => walk_at "m_rm"); k_whole); walk_at "t_one_ints_call_202") | (k_here; (with_unfolding_all show wpAny _ _ (call (Value.ref 190) [Value.ref _, Value.int _ _]) _ _ _); (refine' draw_call ?k9S ?k9F ?k9N ?k9U ?k9hi ?k9hD ?k9hm0 ?k9hm1 ?k9hA ?k9hroom ?k9hu ?_; (case k9F => k_asm); (case k9S => assumption); (case k9N => k_asm); (case k9U => k_updF); (case k9hi => assumption); (case k9hD => assumption); (case k9hm0 => first | assumption | omega); (case k9hm1 => first | assumption | omega); (case k9hA => rfl); (case k9hroom => walk_at "m_rm"); (case k9hu => walk_at "m_rm"); k_whole); walk_at "t_draw_call_190") | (k_here; (with_unfolding_all show wpAny _ _ (call (Value.ref 52) [Value.str _ _, Value.ref _]) _ _ _); (refine' table_call ?k9S ?k9F ?k9N ?k9hA ?k9hroom ?_; (case k9F => k_asm); (case k9S => assumption); (case k9N => k_asm); (case k9hA => rfl); (case k9hroom => walk_at "m_rm"); k_whole); walk_at "t_table_call_52s")) | ((with_reducible show wpAny _ _ (eval (Expr.IfExp _ _ _ _) _) _ _ _); with_reducible (with_reducible refine Stop.go ?_)) | ((with_reducible show wpAny _ _ (exec (Stmt.For _ _ _ _ _) _) _ _ _); with_reducible (k_here; (with_unfolding_all (refine' For_mine ?_ ?k9hs; (case k9hs => intro _; rfl))))) | ((with_reducible show wpAny _ _ (exec (Stmt.While _ _ _ _) _) _ _ _); with_reducible (with_reducible refine Stop.go ?_))) | walk1 | (dsimp only; walk1) | (leave1; (try dsimp only)))
    refine Stop.go (some_call S F4 N4 (by k_updF) hi4 hD4 (by decide) (by decide) (by omega) (by omega) rfl (by dsimp only [Around.deeper]; omega) (by dsimp only [Around.deeper]; omega) ?_)
    intro Dt zt ct nzt h5 tk5 vs5 ns5 n5 hi5 hD5 hzt hztl hztc hne5 F5 N5
    have p0 : @Ne Nat Dw Dt := hne5.1
    have p1 : @Ne Nat I Dt := hne5.2.1
    have p2 : @Ne Nat l' Dt := hne5.2.2.1
    have p3 : @Ne Nat D Dt := hne5.2.2.2.1
    clear hne5
    clear F4 N4
    (try dsimp only)
    repeat' (first | (k_unfold; (try dsimp only)) | (k_end; kc_close) | (first | ((with_reducible show wpAny _ _ (eval (Expr.ListComp _ _ _ _) _) _ _ _); with_reducible (with_reducible refine Stop.go ?_)) | ((with_reducible show wpAny _ _ (call (Value.ref _) _ _) _ _ _); first | ((with_unfolding_all show wpAny _ _ (call (Value.ref 183) [Value.ref _, Value.ref _]) _ _ _); with_reducible refine Stop.go ?_) | ((with_unfolding_all show wpAny _ _ (call (Value.ref 219) [Value.ref _]) _ _ _); with_reducible refine Stop.go ?_) | ((with_unfolding_all show wpAny _ _ (call (Value.ref 106) [Value.ref _]) _ _ _); with_reducible refine Stop.go ?_) | ((with_unfolding_all show wpAny _ _ (call (Value.ref 238) [Value.ref _]) _ _ _); with_reducible refine Stop.go ?_) | ((with_unfolding_all show wpAny _ _ (call (Value.ref 250) [Value.ref _, Value.ref _, Value.ref _]) _ _ _); with_reducible refine Stop.go ?_) | ((with_unfolding_all show wpAny _ _ (call (Value.ref 207) [Value.ref _, Value.str _ _, Value.int _ _]) _ _ _); with_reducible refine Stop.go ?_) | ((with_unfolding_all show wpAny _ _ (call (Value.ref 195) [Value.ref _]) _ _ _); with_reducible refine Stop.go ?_) | (k_here; (with_unfolding_all show wpAny _ _ (call (Value.ref 202) [Value.ref _, Value.ref _]) _ _ _); (refine' one_ints_call ?k9S ?k9F ?k9N ?k9U ?k9hi ?k9hD ?k9hq ?k9hz ?k9hlq ?k9hx0 ?k9hx1 ?k9hA ?k9hroom ?k9hu ?_; (case k9F => k_asm); (case k9S => assumption); (case k9N => k_asm); (case k9U => k_updF); (case k9hi => assumption); (case k9hD => assumption); (case k9hq => is_list); (case k9hz => l_ints); (case k9hlq => first | assumption | omega); (case k9hx0 => first | assumption | decide | (simp only [List.length_cons]; omega)); (case k9hx1 => first | assumption | decide | (simp only [List.length_cons, List.length_nil]; omega)); (case k9hA => rfl); (case k9hroom => walk_at "m_rm"); (case k9hu => walk_at "m_rm"); k_whole); walk_at "t_one_ints_call_202") | (k_here; (with_unfolding_all show wpAny _ _ (call (Value.ref 190) [Value.ref _, Value.int _ _]) _ _ _); (refine' draw_call ?k9S ?k9F ?k9N ?k9U ?k9hi ?k9hD ?k9hm0 ?k9hm1 ?k9hA ?k9hroom ?k9hu ?_; (case k9F => k_asm); (case k9S => assumption); (case k9N => k_asm); (case k9U => k_updF); (case k9hi => assumption); (case k9hD => assumption); (case k9hm0 => first | assumption | omega); (case k9hm1 => first | assumption | omega); (case k9hA => rfl); (case k9hroom => walk_at "m_rm"); (case k9hu => walk_at "m_rm"); k_whole); walk_at "t_draw_call_190") | (k_here; (with_unfolding_all show wpAny _ _ (call (Value.ref 52) [Value.str _ _, Value.ref _]) _ _ _); (refine' table_call ?k9S ?k9F ?k9N ?k9hA ?k9hroom ?_; (case k9F => k_asm); (case k9S => assumption); (case k9N => k_asm); (case k9hA => rfl); (case k9hroom => walk_at "m_rm"); k_whole); walk_at "t_table_call_52s")) | ((with_reducible show wpAny _ _ (eval (Expr.IfExp _ _ _ _) _) _ _ _); with_reducible (with_reducible refine Stop.go ?_)) | ((with_reducible show wpAny _ _ (exec (Stmt.For _ _ _ _ _) _) _ _ _); with_reducible (k_here; (with_unfolding_all (refine' For_mine ?_ ?k9hs; (case k9hs => intro _; rfl))))) | ((with_reducible show wpAny _ _ (exec (Stmt.While _ _ _ _) _) _ _ _); with_reducible (with_reducible refine Stop.go ?_))) | walk1 | (dsimp only; walk1) | (leave1; (try dsimp only)))
    rename Fr _ _ _ _ => F9
    rename News _ _ _ _ => N9
    rename_i oc ot _ _ _ _ _ hoc _ _ dr9 _ _ _ vs9 ns9 n9 _ _ hi9 hD9 tp _ l9 _
    simp only [List.push_toArray] at N9
    have w1 : ∀ c ∈ codesOf (Str.ofString "ab\"\\"), 0 ≤ c ∧ c < 1000 := by decide +kernel
    have w2 : ∀ c ∈ codesOf (Str.ofString "a \"\\\nn7"), 0 ≤ c ∧ c < 1000 := by decide +kernel
    have ho : 0 ≤ oc ∧ oc < 1000 := (by decide : ∀ c ∈ [(0 : Int), 1, 10, 205], 0 ≤ c ∧ c < 1000) oc hoc
    refine ForStep.mk F9 (News.sub (news' := (I, oI) :: (l', listOf (List.toArray (acc ++ [.ref tp])) (na + 1)) :: (D, listOf (List.toArray vs9) n9) :: ((tp, tupOf [.ref Dw, .int oc ot, .ref Dt, .bool (dr9 == 0)] 0) :: (Dt, listOf (List.toArray zt) nzt) :: (Dw, listOf (List.toArray zw) nzw) :: exx)) N9 ?_) ?_ ⟨acc ++ [.ref tp], na + 1, vs9, ns9, n9, _, es ++ [(cw, oc, ct, dr9 == 0)], m1, m2, rfl, ?_, ?_, q3, hi9, hD9, ?_, ?_, ?_⟩
    · exact allMem mm5 (allMem mm6 (allMem mm7 (allMem mm0 (allMem mm3 (allMem mm4 fun _ h => tt8 h)))))
    · exact ⟨hn1, hn2, Nat.ne_of_gt l9.2.2.2.2.1, fun e => p1 e.symm, fun e => o1 e.symm, hn3⟩
    · exact allP (Nat.ne_of_gt l9.2.2.2.2.2.1) (allP (Ne.symm p2) (allP (Ne.symm o2) q1))
    · exact allP (Nat.ne_of_gt l9.2.2.2.2.2.2.1) (allP (Ne.symm p3) (allP (Ne.symm o3) q2))
    · exact (hR.mono fun a e x => x.mono fun p hp => tt3 hp).snoc ⟨Dw, Dt, ot, 0, zw, nzw, zt, nzt, .head _, mm2, hzw, mm1, hzt⟩
    · simp [hlen]
    · intro e he
      rcases List.mem_append.mp he with he | he
      · exact hrow e he
      · rw [List.mem_singleton.mp he]
        exact ⟨by simpa using (by omega : cw.length ≤ 2), by simpa using (by omega : ct.length ≤ 4), fun c hc => w1 c (hzwc c hc), fun c hc => w2 c (hztc c hc), ho.1, ho.2⟩
  · rintro h tk m₁ nw F3 N3 ⟨acc, na, vs, ns, n, exx, es, m1, m2, rfl, q1, q2, q3, hi3, hD3, hR, hlen, hrow⟩
    have hal := hR.length
    have q3' : @Ne Nat D l' := fun e => q3 e.symm
    have q3a : @Ne Nat l' D := q3
    (try dsimp only)
    repeat' (first | (k_unfold; (try dsimp only)) | (k_end; kc_close) | (first | ((with_reducible show wpAny _ _ (eval (Expr.ListComp _ _ _ _) _) _ _ _); with_reducible (with_reducible refine Stop.go ?_)) | ((with_reducible show wpAny _ _ (call (Value.ref _) _ _) _ _ _); first | ((with_unfolding_all show wpAny _ _ (call (Value.ref 183) [Value.ref _, Value.ref _]) _ _ _); with_reducible refine Stop.go ?_) | ((with_unfolding_all show wpAny _ _ (call (Value.ref 219) [Value.ref _]) _ _ _); with_reducible refine Stop.go ?_) | ((with_unfolding_all show wpAny _ _ (call (Value.ref 106) [Value.ref _]) _ _ _); with_reducible refine Stop.go ?_) | ((with_unfolding_all show wpAny _ _ (call (Value.ref 238) [Value.ref _]) _ _ _); with_reducible refine Stop.go ?_) | ((with_unfolding_all show wpAny _ _ (call (Value.ref 250) [Value.ref _, Value.ref _, Value.ref _]) _ _ _); with_reducible refine Stop.go ?_) | ((with_unfolding_all show wpAny _ _ (call (Value.ref 207) [Value.ref _, Value.str _ _, Value.int _ _]) _ _ _); with_reducible refine Stop.go ?_) | ((with_unfolding_all show wpAny _ _ (call (Value.ref 195) [Value.ref _]) _ _ _); with_reducible refine Stop.go ?_) | (k_here; (with_unfolding_all show wpAny _ _ (call (Value.ref 202) [Value.ref _, Value.ref _]) _ _ _); (refine' one_ints_call ?k9S ?k9F ?k9N ?k9U ?k9hi ?k9hD ?k9hq ?k9hz ?k9hlq ?k9hx0 ?k9hx1 ?k9hA ?k9hroom ?k9hu ?_; (case k9F => k_asm); (case k9S => assumption); (case k9N => k_asm); (case k9U => k_updF); (case k9hi => assumption); (case k9hD => assumption); (case k9hq => is_list); (case k9hz => l_ints); (case k9hlq => first | assumption | omega); (case k9hx0 => first | assumption | decide | (simp only [List.length_cons]; omega)); (case k9hx1 => first | assumption | decide | (simp only [List.length_cons, List.length_nil]; omega)); (case k9hA => rfl); (case k9hroom => walk_at "m_rm"); (case k9hu => walk_at "m_rm"); k_whole); walk_at "t_one_ints_call_202") | (k_here; (with_unfolding_all show wpAny _ _ (call (Value.ref 190) [Value.ref _, Value.int _ _]) _ _ _); (refine' draw_call ?k9S ?k9F ?k9N ?k9U ?k9hi ?k9hD ?k9hm0 ?k9hm1 ?k9hA ?k9hroom ?k9hu ?_; (case k9F => k_asm); (case k9S => assumption); (case k9N => k_asm); (case k9U => k_updF); (case k9hi => assumption); (case k9hD => assumption); (case k9hm0 => first | assumption | omega); (case k9hm1 => first | assumption | omega); (case k9hA => rfl); (case k9hroom => walk_at "m_rm"); (case k9hu => walk_at "m_rm"); k_whole); walk_at "t_draw_call_190") | (k_here; (with_unfolding_all show wpAny _ _ (call (Value.ref 52) [Value.str _ _, Value.ref _]) _ _ _); (refine' table_call ?k9S ?k9F ?k9N ?k9hA ?k9hroom ?_; (case k9F => k_asm); (case k9S => assumption); (case k9N => k_asm); (case k9hA => rfl); (case k9hroom => walk_at "m_rm"); k_whole); walk_at "t_table_call_52s")) | ((with_reducible show wpAny _ _ (eval (Expr.IfExp _ _ _ _) _) _ _ _); with_reducible (with_reducible refine Stop.go ?_)) | ((with_reducible show wpAny _ _ (exec (Stmt.For _ _ _ _ _) _) _ _ _); with_reducible (k_here; (with_unfolding_all (refine' For_mine ?_ ?k9hs; (case k9hs => intro _; rfl))))) | ((with_reducible show wpAny _ _ (exec (Stmt.While _ _ _ _) _) _ _ _); with_reducible (with_reducible refine Stop.go ?_))) | walk1 | (dsimp only; walk1) | (leave1; (try dsimp only)))
    refine flat_assign F3 rfl rfl rfl (by decide) rfl (by decide) rfl rfl (by decide +kernel) rfl rfl ?_ (fun _ => rfl) (fun _ _ => rfl)
    repeat' (first | (k_unfold; (try dsimp only)) | (k_end; kc_close) | (first | ((with_reducible show wpAny _ _ (eval (Expr.ListComp _ _ _ _) _) _ _ _); with_reducible (with_reducible refine Stop.go ?_)) | ((with_reducible show wpAny _ _ (call (Value.ref _) _ _) _ _ _); first | ((with_unfolding_all show wpAny _ _ (call (Value.ref 183) [Value.ref _, Value.ref _]) _ _ _); with_reducible refine Stop.go ?_) | ((with_unfolding_all show wpAny _ _ (call (Value.ref 219) [Value.ref _]) _ _ _); with_reducible refine Stop.go ?_) | ((with_unfolding_all show wpAny _ _ (call (Value.ref 106) [Value.ref _]) _ _ _); with_reducible refine Stop.go ?_) | ((with_unfolding_all show wpAny _ _ (call (Value.ref 238) [Value.ref _]) _ _ _); with_reducible refine Stop.go ?_) | ((with_unfolding_all show wpAny _ _ (call (Value.ref 250) [Value.ref _, Value.ref _, Value.ref _]) _ _ _); with_reducible refine Stop.go ?_) | ((with_unfolding_all show wpAny _ _ (call (Value.ref 207) [Value.ref _, Value.str _ _, Value.int _ _]) _ _ _); with_reducible refine Stop.go ?_) | ((with_unfolding_all show wpAny _ _ (call (Value.ref 195) [Value.ref _]) _ _ _); with_reducible refine Stop.go ?_) | (k_here; (with_unfolding_all show wpAny _ _ (call (Value.ref 202) [Value.ref _, Value.ref _]) _ _ _); (refine' one_ints_call ?k9S ?k9F ?k9N ?k9U ?k9hi ?k9hD ?k9hq ?k9hz ?k9hlq ?k9hx0 ?k9hx1 ?k9hA ?k9hroom ?k9hu ?_; (case k9F => k_asm); (case k9S => assumption); (case k9N => k_asm); (case k9U => k_updF); (case k9hi => assumption); (case k9hD => assumption); (case k9hq => is_list); (case k9hz => l_ints); (case k9hlq => first | assumption | omega); (case k9hx0 => first | assumption | decide | (simp only [List.length_cons]; omega)); (case k9hx1 => first | assumption | decide | (simp only [List.length_cons, List.length_nil]; omega)); (case k9hA => rfl); (case k9hroom => walk_at "m_rm"); (case k9hu => walk_at "m_rm"); k_whole); walk_at "t_one_ints_call_202") | (k_here; (with_unfolding_all show wpAny _ _ (call (Value.ref 190) [Value.ref _, Value.int _ _]) _ _ _); (refine' draw_call ?k9S ?k9F ?k9N ?k9U ?k9hi ?k9hD ?k9hm0 ?k9hm1 ?k9hA ?k9hroom ?k9hu ?_; (case k9F => k_asm); (case k9S => assumption); (case k9N => k_asm); (case k9U => k_updF); (case k9hi => assumption); (case k9hD => assumption); (case k9hm0 => first | assumption | omega); (case k9hm1 => first | assumption | omega); (case k9hA => rfl); (case k9hroom => walk_at "m_rm"); (case k9hu => walk_at "m_rm"); k_whole); walk_at "t_draw_call_190") | (k_here; (with_unfolding_all show wpAny _ _ (call (Value.ref 52) [Value.str _ _, Value.ref _]) _ _ _); (refine' table_call ?k9S ?k9F ?k9N ?k9hA ?k9hroom ?_; (case k9F => k_asm); (case k9S => assumption); (case k9N => k_asm); (case k9hA => rfl); (case k9hroom => walk_at "m_rm"); k_whole); walk_at "t_table_call_52s")) | ((with_reducible show wpAny _ _ (eval (Expr.IfExp _ _ _ _) _) _ _ _); with_reducible (with_reducible refine Stop.go ?_)) | ((with_reducible show wpAny _ _ (exec (Stmt.For _ _ _ _ _) _) _ _ _); with_reducible (k_here; (with_unfolding_all (refine' For_mine ?_ ?k9hs; (case k9hs => intro _; rfl))))) | ((with_reducible show wpAny _ _ (exec (Stmt.While _ _ _ _) _) _ _ _); with_reducible (with_reducible refine Stop.go ?_))) | walk1 | (dsimp only; walk1) | (leave1; (try dsimp only)))
    refine FGo.mk acc.length (LaF D l' acc na vs n exx es) F3 N3 (src_list rfl (N3.isList (.head _))) (by simp) (.inr ⟨_, .head _, rfl, _, rfl⟩) ⟨exx, rfl, fun p hp => hp, q1, q2, .nil⟩ ?_ ?_
    · rintro i ys nw hi9 ⟨ex2, rfl, e1, e2, e3, hy⟩ v I oI C oC D3 m₂ h9 tk9 E' hP hC hx F9 N9 off ne --D
      have hv : acc[i]? = some v := by simpa using hP
      obtain ⟨a, e, rfl, he, hT⟩ := hR.at hv
      have hre := hrow e (List.mem_of_getElem? he)
      repeat' (first | (k_unfold; (try dsimp only)) | (k_end; kc_close) | (first | ((with_reducible show wpAny _ _ (eval (Expr.ListComp _ _ _ _) _) _ _ _); with_reducible (with_reducible refine Stop.go ?_)) | ((with_reducible show wpAny _ _ (call (Value.ref _) _ _) _ _ _); first | ((with_unfolding_all show wpAny _ _ (call (Value.ref 183) [Value.ref _, Value.ref _]) _ _ _); with_reducible refine Stop.go ?_) | ((with_unfolding_all show wpAny _ _ (call (Value.ref 219) [Value.ref _]) _ _ _); with_reducible refine Stop.go ?_) | ((with_unfolding_all show wpAny _ _ (call (Value.ref 106) [Value.ref _]) _ _ _); with_reducible refine Stop.go ?_) | ((with_unfolding_all show wpAny _ _ (call (Value.ref 238) [Value.ref _]) _ _ _); with_reducible refine Stop.go ?_) | ((with_unfolding_all show wpAny _ _ (call (Value.ref 250) [Value.ref _, Value.ref _, Value.ref _]) _ _ _); with_reducible refine Stop.go ?_) | ((with_unfolding_all show wpAny _ _ (call (Value.ref 207) [Value.ref _, Value.str _ _, Value.int _ _]) _ _ _); with_reducible refine Stop.go ?_) | ((with_unfolding_all show wpAny _ _ (call (Value.ref 195) [Value.ref _]) _ _ _); with_reducible refine Stop.go ?_) | (k_here; (with_unfolding_all show wpAny _ _ (call (Value.ref 202) [Value.ref _, Value.ref _]) _ _ _); (refine' one_ints_call ?k9S ?k9F ?k9N ?k9U ?k9hi ?k9hD ?k9hq ?k9hz ?k9hlq ?k9hx0 ?k9hx1 ?k9hA ?k9hroom ?k9hu ?_; (case k9F => k_asm); (case k9S => assumption); (case k9N => k_asm); (case k9U => k_updF); (case k9hi => assumption); (case k9hD => assumption); (case k9hq => is_list); (case k9hz => l_ints); (case k9hlq => first | assumption | omega); (case k9hx0 => first | assumption | decide | (simp only [List.length_cons]; omega)); (case k9hx1 => first | assumption | decide | (simp only [List.length_cons, List.length_nil]; omega)); (case k9hA => rfl); (case k9hroom => walk_at "m_rm"); (case k9hu => walk_at "m_rm"); k_whole); walk_at "t_one_ints_call_202") | (k_here; (with_unfolding_all show wpAny _ _ (call (Value.ref 190) [Value.ref _, Value.int _ _]) _ _ _); (refine' draw_call ?k9S ?k9F ?k9N ?k9U ?k9hi ?k9hD ?k9hm0 ?k9hm1 ?k9hA ?k9hroom ?k9hu ?_; (case k9F => k_asm); (case k9S => assumption); (case k9N => k_asm); (case k9U => k_updF); (case k9hi => assumption); (case k9hD => assumption); (case k9hm0 => first | assumption | omega); (case k9hm1 => first | assumption | omega); (case k9hA => rfl); (case k9hroom => walk_at "m_rm"); (case k9hu => walk_at "m_rm"); k_whole); walk_at "t_draw_call_190") | (k_here; (with_unfolding_all show wpAny _ _ (call (Value.ref 52) [Value.str _ _, Value.ref _]) _ _ _); (refine' table_call ?k9S ?k9F ?k9N ?k9hA ?k9hroom ?_; (case k9F => k_asm); (case k9S => assumption); (case k9N => k_asm); (case k9hA => rfl); (case k9hroom => walk_at "m_rm"); k_whole); walk_at "t_table_call_52s")) | ((with_reducible show wpAny _ _ (eval (Expr.IfExp _ _ _ _) _) _ _ _); with_reducible (with_reducible refine Stop.go ?_)) | ((with_reducible show wpAny _ _ (exec (Stmt.For _ _ _ _ _) _) _ _ _); with_reducible (k_here; (with_unfolding_all (refine' For_mine ?_ ?k9hs; (case k9hs => intro _; rfl))))) | ((with_reducible show wpAny _ _ (exec (Stmt.While _ _ _ _) _) _ _ _); with_reducible (with_reducible refine Stop.go ?_))) | walk1 | (dsimp only; walk1) | (leave1; (try dsimp only)))
      refine Stop.go (row_call S F9 N9 (hT.mono fun p hp => tt5 (e1 p hp)) (rowOk_ent hre) rfl (by dsimp only [Around.deeper]; omega) ?_)
      intro Rr vr nr h10 tk10 hneR F10 N10 hiR hlR
      have hyl := hy.length
      have hyb : ((es.take i).flatMap rowE).length ≤ 35 * (es.take i).length := rows_len fun x hx => hrow x (List.mem_of_mem_take hx)
      have hti : (es.take i).length ≤ es.length := List.length_take_le' _ _
      have hrl := row_len hre
      have hbd : ys.length + vr.length ≤ 1000000 := laBd hyl hyb hti (laE hlen dr0 dr1) hlR hrl
      refine FEnd.mk ((l', listOf (List.toArray acc) na) :: (D, listOf (List.toArray vs) n) :: (Rr, listOf (List.toArray vr) nr) :: ex2) F10 N10 ?_ ⟨off.1, off.2.1, ⟨Ne.symm hneR.1, Ne.symm hneR.2.1, Ne.symm hneR.2.2.1⟩, off.2.2⟩ (.inr ⟨_, .head _, rfl, _, rfl⟩) mm2 hbd ⟨(Rr, listOf (List.toArray vr) nr) :: ex2, rfl, fun p hp => .tail _ (e1 p hp), allP (Ne.symm hneR.2.2.2.1) e2, allP (Ne.symm hneR.2.2.2.2.1) e3, ?_⟩
      · exact allMem mm1 (allMem mm2 (allMem mm3 (allMem mm4 (allMem mm5 (allMem mm0 fun _ h => tt6 h)))))
      · rw [List.take_add_one, he]
        simpa using ints_app hy hiR
    · rintro ys nw gg ⟨ex2, rfl, e1, e2, e3, hy⟩ D3 h9 tk9 F9 N9 off
      rw [List.take_of_length_le (by omega)] at hy
      have hcl : (es.flatMap rowE).length ≤ 35 * es.length := rows_len hrow
      have hel : es.length ≤ 3 := laE hlen dr0 dr1
      generalize hcs9 : es.flatMap rowE = cs at *
      have hcb : ∀ c ∈ cs, 0 ≤ c ∧ c < 1000000 := by
        rw [← hcs9]
        intro c hc
        obtain ⟨e, he, hc⟩ := List.mem_flatMap.mp hc
        have := row_codes (hrow e he) c hc
        omega
      obtain ⟨g1, g2, g3⟩ := off
      (try dsimp only)
      repeat' (first | (k_unfold; (try dsimp only)) | (k_end; kc_close) | (first | ((with_reducible show wpAny _ _ (eval (Expr.ListComp _ _ _ _) _) _ _ _); with_reducible (with_reducible refine Stop.go ?_)) | ((with_reducible show wpAny _ _ (call (Value.ref _) _ _) _ _ _); first | ((with_unfolding_all show wpAny _ _ (call (Value.ref 183) [Value.ref _, Value.ref _]) _ _ _); with_reducible refine Stop.go ?_) | ((with_unfolding_all show wpAny _ _ (call (Value.ref 219) [Value.ref _]) _ _ _); with_reducible refine Stop.go ?_) | ((with_unfolding_all show wpAny _ _ (call (Value.ref 106) [Value.ref _]) _ _ _); with_reducible refine Stop.go ?_) | ((with_unfolding_all show wpAny _ _ (call (Value.ref 238) [Value.ref _]) _ _ _); with_reducible refine Stop.go ?_) | ((with_unfolding_all show wpAny _ _ (call (Value.ref 250) [Value.ref _, Value.ref _, Value.ref _]) _ _ _); with_reducible refine Stop.go ?_) | ((with_unfolding_all show wpAny _ _ (call (Value.ref 207) [Value.ref _, Value.str _ _, Value.int _ _]) _ _ _); with_reducible refine Stop.go ?_) | ((with_unfolding_all show wpAny _ _ (call (Value.ref 195) [Value.ref _]) _ _ _); with_reducible refine Stop.go ?_) | (k_here; (with_unfolding_all show wpAny _ _ (call (Value.ref 202) [Value.ref _, Value.ref _]) _ _ _); (refine' one_ints_call ?k9S ?k9F ?k9N ?k9U ?k9hi ?k9hD ?k9hq ?k9hz ?k9hlq ?k9hx0 ?k9hx1 ?k9hA ?k9hroom ?k9hu ?_; (case k9F => k_asm); (case k9S => assumption); (case k9N => k_asm); (case k9U => k_updF); (case k9hi => assumption); (case k9hD => assumption); (case k9hq => is_list); (case k9hz => l_ints); (case k9hlq => first | assumption | omega); (case k9hx0 => first | assumption | decide | (simp only [List.length_cons]; omega)); (case k9hx1 => first | assumption | decide | (simp only [List.length_cons, List.length_nil]; omega)); (case k9hA => rfl); (case k9hroom => walk_at "m_rm"); (case k9hu => walk_at "m_rm"); k_whole); walk_at "t_one_ints_call_202") | (k_here; (with_unfolding_all show wpAny _ _ (call (Value.ref 190) [Value.ref _, Value.int _ _]) _ _ _); (refine' draw_call ?k9S ?k9F ?k9N ?k9U ?k9hi ?k9hD ?k9hm0 ?k9hm1 ?k9hA ?k9hroom ?k9hu ?_; (case k9F => k_asm); (case k9S => assumption); (case k9N => k_asm); (case k9U => k_updF); (case k9hi => assumption); (case k9hD => assumption); (case k9hm0 => first | assumption | omega); (case k9hm1 => first | assumption | omega); (case k9hA => rfl); (case k9hroom => walk_at "m_rm"); (case k9hu => walk_at "m_rm"); k_whole); walk_at "t_draw_call_190") | (k_here; (with_unfolding_all show wpAny _ _ (call (Value.ref 52) [Value.str _ _, Value.ref _]) _ _ _); (refine' table_call ?k9S ?k9F ?k9N ?k9hA ?k9hroom ?_; (case k9F => k_asm); (case k9S => assumption); (case k9N => k_asm); (case k9hA => rfl); (case k9hroom => walk_at "m_rm"); k_whole); walk_at "t_table_call_52s")) | ((with_reducible show wpAny _ _ (eval (Expr.IfExp _ _ _ _) _) _ _ _); with_reducible (with_reducible refine Stop.go ?_)) | ((with_reducible show wpAny _ _ (exec (Stmt.For _ _ _ _ _) _) _ _ _); with_reducible (k_here; (with_unfolding_all (refine' For_mine ?_ ?k9hs; (case k9hs => intro _; rfl))))) | ((with_reducible show wpAny _ _ (exec (Stmt.While _ _ _ _) _) _ _ _); with_reducible (with_reducible refine Stop.go ?_))) | walk1 | (dsimp only; walk1) | (leave1; (try dsimp only)))
      rename Fr _ _ _ _ => F8
      rename News _ _ _ _ => N8
      rename_i sl9 ax adx en t9 t8 t7 t6 oE _ _ l3 l4 lo hs l1 l2 lb _ lz
      refine Stop.go (alike_call (ex := []) (es := []) (kvs := []) (vb := []) (cs := cs) (bs := []) S F8 N8 mm1 mm2 mm3 mm5 (.head _) (by simp) hs lo l3.2 trivial (by simp) (by simp) hy .nil (by omega) hcb (fun _ => textF_nil.symm) (fun _ => rfl) rfl rfl (by omega) (by omega) ?_)
      intro h11 tk11 F11 N11
      have N12 := N11 ((D3, LCg.lst ys) :: (l', listOf (List.toArray acc) na) :: (D, listOf (List.toArray vs) n) :: ex2) (allP ⟨mm5, l4.2.1⟩ (allP ⟨mm6, l4.2.2.1⟩ (allP ⟨mm7, l4.2.2.2.1⟩ (fun p hp => ⟨tt8 hp, AllNe.all l4.2.2.2.2 p hp⟩))))
      clear N11 F8 N8
      (try dsimp only)
      repeat' (first | (k_unfold; (try dsimp only)) | (k_end; kc_close) | (first | ((with_reducible show wpAny _ _ (eval (Expr.ListComp _ _ _ _) _) _ _ _); with_reducible (with_reducible refine Stop.go ?_)) | ((with_reducible show wpAny _ _ (call (Value.ref _) _ _) _ _ _); first | ((with_unfolding_all show wpAny _ _ (call (Value.ref 183) [Value.ref _, Value.ref _]) _ _ _); with_reducible refine Stop.go ?_) | ((with_unfolding_all show wpAny _ _ (call (Value.ref 219) [Value.ref _]) _ _ _); with_reducible refine Stop.go ?_) | ((with_unfolding_all show wpAny _ _ (call (Value.ref 106) [Value.ref _]) _ _ _); with_reducible refine Stop.go ?_) | ((with_unfolding_all show wpAny _ _ (call (Value.ref 238) [Value.ref _]) _ _ _); with_reducible refine Stop.go ?_) | ((with_unfolding_all show wpAny _ _ (call (Value.ref 250) [Value.ref _, Value.ref _, Value.ref _]) _ _ _); with_reducible refine Stop.go ?_) | ((with_unfolding_all show wpAny _ _ (call (Value.ref 207) [Value.ref _, Value.str _ _, Value.int _ _]) _ _ _); with_reducible refine Stop.go ?_) | ((with_unfolding_all show wpAny _ _ (call (Value.ref 195) [Value.ref _]) _ _ _); with_reducible refine Stop.go ?_) | (k_here; (with_unfolding_all show wpAny _ _ (call (Value.ref 202) [Value.ref _, Value.ref _]) _ _ _); (refine' one_ints_call ?k9S ?k9F ?k9N ?k9U ?k9hi ?k9hD ?k9hq ?k9hz ?k9hlq ?k9hx0 ?k9hx1 ?k9hA ?k9hroom ?k9hu ?_; (case k9F => k_asm); (case k9S => assumption); (case k9N => k_asm); (case k9U => k_updF); (case k9hi => assumption); (case k9hD => assumption); (case k9hq => is_list); (case k9hz => l_ints); (case k9hlq => first | assumption | omega); (case k9hx0 => first | assumption | decide | (simp only [List.length_cons]; omega)); (case k9hx1 => first | assumption | decide | (simp only [List.length_cons, List.length_nil]; omega)); (case k9hA => rfl); (case k9hroom => walk_at "m_rm"); (case k9hu => walk_at "m_rm"); k_whole); walk_at "t_one_ints_call_202") | (k_here; (with_unfolding_all show wpAny _ _ (call (Value.ref 190) [Value.ref _, Value.int _ _]) _ _ _); (refine' draw_call ?k9S ?k9F ?k9N ?k9U ?k9hi ?k9hD ?k9hm0 ?k9hm1 ?k9hA ?k9hroom ?k9hu ?_; (case k9F => k_asm); (case k9S => assumption); (case k9N => k_asm); (case k9U => k_updF); (case k9hi => assumption); (case k9hD => assumption); (case k9hm0 => first | assumption | omega); (case k9hm1 => first | assumption | omega); (case k9hA => rfl); (case k9hroom => walk_at "m_rm"); (case k9hu => walk_at "m_rm"); k_whole); walk_at "t_draw_call_190") | (k_here; (with_unfolding_all show wpAny _ _ (call (Value.ref 52) [Value.str _ _, Value.ref _]) _ _ _); (refine' table_call ?k9S ?k9F ?k9N ?k9hA ?k9hroom ?_; (case k9F => k_asm); (case k9S => assumption); (case k9N => k_asm); (case k9hA => rfl); (case k9hroom => walk_at "m_rm"); k_whole); walk_at "t_table_call_52s")) | ((with_reducible show wpAny _ _ (eval (Expr.IfExp _ _ _ _) _) _ _ _); with_reducible (with_reducible refine Stop.go ?_)) | ((with_reducible show wpAny _ _ (exec (Stmt.For _ _ _ _ _) _) _ _ _); with_reducible (k_here; (with_unfolding_all (refine' For_mine ?_ ?k9hs; (case k9hs => intro _; rfl))))) | ((with_reducible show wpAny _ _ (exec (Stmt.While _ _ _ _) _) _ _ _); with_reducible (with_reducible refine Stop.go ?_))) | walk1 | (dsimp only; walk1) | (leave1; (try dsimp only)))
      rename Fr _ _ _ _ => F13
      rename News _ _ _ _ => N13
      rename IsRange _ _ _ _ _ _ _ _ => hr3
      have hcl2 : cs.length ≤ 105 := Nat.le_trans hcl (Nat.mul_le_mul_left 35 hel)
      have hys := hy.length
      refine Stop.go (for_range (n := 3) (LaK D D3 ys) rfl F13 (News.sub (news' := [(D3, LCg.lst ys), (D, listOf (List.toArray vs) n)]) N13 fun p hp => ?hsub) hr3 rfl (by omega) ?_ ?_ ?_ rfl rfl (by passes_own))
      case hsub =>
        simp only [List.mem_cons, List.not_mem_nil, or_false] at hp
        rcases hp with rfl | rfl
        · exact .head _
        · exact mm2
      · exact ⟨vs, ns, n, m1, rfl, rfl, hi3, hD3⟩
      · clear F13 N13 hr3
        rintro I i v m₂ nw oI h12 tk12 hi12 ⟨vs9, ns9, n9, k1, k2, rfl, hi9, hD9⟩ hne F14 N14
        obtain ⟨z1, z2, _⟩ := hne
        refine turn1 S F14 N14 k1 k2 hy hi9 hD9 hcl2 z1 z2 g2 (by omega) hun ?_
        intro h15 tk15 m3 Dp vp np sp vsB nsB nB FB w1 w2 w3 NB y1 y2 y3 hip hlp hcp hiB hDB
        refine turn2 S FB NB w1 w2 w3 y1 y2 y3 hip hlp (fun c hc => ?_) (by omega) hun ?_
        · rcases hcp c hc with h | h
          · exact hcb c h
          · omega
        · intro h16 tk16 m4 FC u1 u2 NC
          exact ForStep.mk FC NC (by simp only [AllNe]; exact ⟨z1, z2, trivial⟩) ⟨vsB, nsB, nB, u1, u2, rfl, hiB, hDB⟩
      · rintro h12 tk12 m₂ nw F14 N14 ⟨vs9, ns9, n9, k1, k2, rfl, hi9, hD9⟩
        (try dsimp only)
        refine end_spec S F14 (News.sub (news' := []) N14 (by simp)) (by omega) hun ?_
        intro h17 tk17 m5 F17
        (try dsimp only)
        repeat' (first | (k_unfold; (try dsimp only)) | (k_end; kc_close) | (first | ((with_reducible show wpAny _ _ (eval (Expr.ListComp _ _ _ _) _) _ _ _); with_reducible (with_reducible refine Stop.go ?_)) | ((with_reducible show wpAny _ _ (call (Value.ref _) _ _) _ _ _); first | ((with_unfolding_all show wpAny _ _ (call (Value.ref 183) [Value.ref _, Value.ref _]) _ _ _); with_reducible refine Stop.go ?_) | ((with_unfolding_all show wpAny _ _ (call (Value.ref 219) [Value.ref _]) _ _ _); with_reducible refine Stop.go ?_) | ((with_unfolding_all show wpAny _ _ (call (Value.ref 106) [Value.ref _]) _ _ _); with_reducible refine Stop.go ?_) | ((with_unfolding_all show wpAny _ _ (call (Value.ref 238) [Value.ref _]) _ _ _); with_reducible refine Stop.go ?_) | ((with_unfolding_all show wpAny _ _ (call (Value.ref 250) [Value.ref _, Value.ref _, Value.ref _]) _ _ _); with_reducible refine Stop.go ?_) | ((with_unfolding_all show wpAny _ _ (call (Value.ref 207) [Value.ref _, Value.str _ _, Value.int _ _]) _ _ _); with_reducible refine Stop.go ?_) | ((with_unfolding_all show wpAny _ _ (call (Value.ref 195) [Value.ref _]) _ _ _); with_reducible refine Stop.go ?_) | (k_here; (with_unfolding_all show wpAny _ _ (call (Value.ref 202) [Value.ref _, Value.ref _]) _ _ _); (refine' one_ints_call ?k9S ?k9F ?k9N ?k9U ?k9hi ?k9hD ?k9hq ?k9hz ?k9hlq ?k9hx0 ?k9hx1 ?k9hA ?k9hroom ?k9hu ?_; (case k9F => k_asm); (case k9S => assumption); (case k9N => k_asm); (case k9U => k_updF); (case k9hi => assumption); (case k9hD => assumption); (case k9hq => is_list); (case k9hz => l_ints); (case k9hlq => first | assumption | omega); (case k9hx0 => first | assumption | decide | (simp only [List.length_cons]; omega)); (case k9hx1 => first | assumption | decide | (simp only [List.length_cons, List.length_nil]; omega)); (case k9hA => rfl); (case k9hroom => walk_at "m_rm"); (case k9hu => walk_at "m_rm"); k_whole); walk_at "t_one_ints_call_202") | (k_here; (with_unfolding_all show wpAny _ _ (call (Value.ref 190) [Value.ref _, Value.int _ _]) _ _ _); (refine' draw_call ?k9S ?k9F ?k9N ?k9U ?k9hi ?k9hD ?k9hm0 ?k9hm1 ?k9hA ?k9hroom ?k9hu ?_; (case k9F => k_asm); (case k9S => assumption); (case k9N => k_asm); (case k9U => k_updF); (case k9hi => assumption); (case k9hD => assumption); (case k9hm0 => first | assumption | omega); (case k9hm1 => first | assumption | omega); (case k9hA => rfl); (case k9hroom => walk_at "m_rm"); (case k9hu => walk_at "m_rm"); k_whole); walk_at "t_draw_call_190") | (k_here; (with_unfolding_all show wpAny _ _ (call (Value.ref 52) [Value.str _ _, Value.ref _]) _ _ _); (refine' table_call ?k9S ?k9F ?k9N ?k9hA ?k9hroom ?_; (case k9F => k_asm); (case k9S => assumption); (case k9N => k_asm); (case k9hA => rfl); (case k9hroom => walk_at "m_rm"); k_whole); walk_at "t_table_call_52s")) | ((with_reducible show wpAny _ _ (eval (Expr.IfExp _ _ _ _) _) _ _ _); with_reducible (with_reducible refine Stop.go ?_)) | ((with_reducible show wpAny _ _ (exec (Stmt.For _ _ _ _ _) _) _ _ _); with_reducible (k_here; (with_unfolding_all (refine' For_mine ?_ ?k9hs; (case k9hs => intro _; rfl))))) | ((with_reducible show wpAny _ _ (exec (Stmt.While _ _ _ _) _) _ _ _); with_reducible (with_reducible refine Stop.go ?_))) | walk1 | (dsimp only; walk1) | (leave1; (try dsimp only)))
end

end Mine
theorem PySem.Challenge.cw_on0064_01_holds : PySem.Challenge.rw_on0064_01.Holds :=
  Mine.law_holds
