import PyProof.Rows.All
import Wide.All
import OpenK.AllK
import Wide.FinOn
import PySem.Challenge.RW_rh0181_01
open PySem PySem.W PyProof.Rows PySem.Calls
set_option Elab.async false
set_option maxRecDepth 100000
set_option linter.unusedVariables false
set_option compiler.extract_closed false
section
namespace Mine
noncomputable section
noncomputable abbrev S (x : String) : Str := Str.ofString x
noncomputable abbrev pw : Program := PySem.Challenge.pw_rh0181_01
noncomputable def fdef (i : Nat) : Stmt := (pw.main.body[i]?).getD (.Pass default)
noncomputable def mdef (i j : Nat) : Stmt := match fdef i with
  | .ClassDef _ _ _ b .. => (b[j]?).getD (.Pass default)
  | _ => .Pass default
noncomputable def ob (c : Value) (d : Data) : Obj := ⟨c, none, d, #[]⟩
noncomputable def fnO (st : Stmt) (qual : Str) (dV pm : Value) (code : Addr) : Obj := match st with
  | .FunctionDef n a b _ _ _ sc _ _ _ => ob (.type "function") (.func (fnOf n qual a b sc dV .none .none pm none (.ref code) .none))
  | _ => ob .none .plain
noncomputable def e (P : Params) (x : String) (t : Tok) (v : Value) : DictEntry := ⟨PyData.keyHash P (S x), .str (S x) t, v⟩
noncomputable def K (P : Params) : Frag := [
  (3, ob (.type "dict") (.dict #[e P "__name__" 165 (.str (S "law_rh0181_01") 724), e P "__doc__" 166 .none, e P "__package__" 167 .none, e P "__loader__" 168 (.builtin "__main__.__loader__#opaque"), e P "__spec__" 169 .none, e P "__annotations__" 170 (.ref 6), e P "__builtins__" 171 (.ref 4), e P "__file__" 173 (.str (S "/claim/cut.py") 172), e P "__cached__" 174 .none, e P "_wall" 193 (.ref 21), e P "PostError" 224 (.ref 39), e P "PsError" 240 (.ref 52), e P "FILE_ACCESSES" 249 (.ref 55), e P "FILE_MOST_NAME" 251 (.int (255) 250), e P "FILE_DEVICE" 253 (.bytes #[37, 111, 115, 37] 252), e P "PsFile" 410 (.ref 177), e P "OctetReader" 470 (.ref 226), e P "DiskFile" 543 (.ref 280), e P "StandardOut" 591 (.ref 320), e P "file_device_name" 598 (.ref 329), e P "FileTable" 723 (.ref 413), e P "_law_names" 731 (.ref 424), e P "_law_ways" 739 (.ref 425), e P "_law_texts" 745 (.ref 426), e P "_law_draw" 754 (.ref 433), e P "_law_plain" 761 (.ref 440), e P "_law_has" 769 (.ref 447), e P "_law_shut" 778 (.ref 454), e P "_law_opened" 784 (.ref 459), e P "_law_written" 798 (.ref 466), e P "_law_read" 809 (.ref 473), e P "_law_placed" 822 (.ref 480), e P "_law_moved" 838 (.ref 487), e P "_law_gone" 851 (.ref 494), e P "_law_stands" 859 (.ref 501), e P "_law_is_right" 865 (.ref 506), e P "law" 871 (.ref 511)] 37)),
  (20, ob (.type "code") (.fields #[(.str (S "_wall") 187), (.str (S "_wall") 188), (.str (S "/claim/cut.py") 189), (.int (1) 0), (.int (1) 0), (.int (0) 0), (.int (0) 0), (.int (3) 0), (.ref 15), (.bool true), (.int (181) 0), (.ref 16), .none, (.ref 17), (.ref 18), (.ref 19), (.int (191) 0), (.int (1) 0), (.str (S "/claim/cut.py") 192)])),
  (21, fnO (fdef 0) (S "_wall") .none (.str (S "__main__") 164) 20),
  (29, ob (.type "tuple") (.seq #[.none] 0)),
  (35, ob (.type "code") (.fields #[(.str (S "__init__") 208), (.str (S "PostError.__init__") 209), (.str (S "/claim/cut.py") 210), (.int (7) 0), (.int (2) 0), (.int (0) 0), (.int (0) 0), (.int (3) 0), (.ref 30), (.bool true), (.int (181) 0), (.ref 31), .none, (.ref 32), (.ref 33), (.ref 34), (.int (213) 0), (.int (7) 0), (.str (S "/claim/cut.py") 214)])),
  (36, fnO (mdef 2 0) (S "PostError.__init__") (.ref 29) (.str (S "postcore.base") 194) 35),
  (38, ob (.type "dict") (.dict #[e P "__module__" 203 (.str (S "postcore.base") 194), e P "__firstlineno__" 207 (.int (5) 206), e P "__init__" 215 (.ref 36), e P "__static_attributes__" 217 (.ref 37), e P "__weakref__" 219 (.ref 40), e P "__doc__" 220 .none] 3)),
  (39, ⟨(.type "type"), none, .cls { name := (S "PostError"), bases := [(.type "Exception")], mro := [(.ref 39), (.type "Exception"), (.type "BaseException"), (.type "object")], ns := 38, qualname := (S "PostError"), hasDict := true, slotNames := [], subclasses := [(.ref 52)], abstract := false, collection := none, hasDel := false }, #[(some (.ref 22)), none, (some (.str (S "PostError") 196)), (some (.str (S "PostError") 204)), (some (.builtin "Exception.__new__")), (some (.bool true))]⟩),
  (51, ob (.type "dict") (.dict #[e P "__module__" 232 (.str (S "postcore.base") 194), e P "__firstlineno__" 236 (.int (9) 235), e P "__static_attributes__" 237 (.ref 50), e P "__doc__" 238 .none] 2)),
  (52, ⟨(.type "type"), none, .cls { name := (S "PsError"), bases := [(.ref 39)], mro := [(.ref 52), (.ref 39), (.type "Exception"), (.type "BaseException"), (.type "object")], ns := 51, qualname := (S "PsError"), hasDict := true, slotNames := [], subclasses := [], abstract := false, collection := none, hasDel := false }, #[(some (.ref 43)), none, (some (.str (S "PsError") 225)), (some (.str (S "PsError") 233)), (some (.builtin "Exception.__new__")), (some (.bool true))]⟩),
  (55, ob (.type "tuple") (.seq #[(.bytes #[114] 243), (.bytes #[119] 244), (.bytes #[97] 245), (.bytes #[114, 43] 246), (.bytes #[119, 43] 247), (.bytes #[97, 43] 248)] 0)),
  (68, ob (.type "code") (.fields #[(.str (S "__init__") 266), (.str (S "PsFile.__init__") 267), (.str (S "/claim/cut.py") 268), (.int (17) 0), (.int (5) 0), (.int (0) 0), (.int (0) 0), (.int (3) 0), (.ref 63), (.bool true), (.int (181) 0), (.ref 64), .none, (.ref 65), (.ref 66), (.ref 67), (.int (274) 0), (.int (17) 0), (.str (S "/claim/cut.py") 275)])),
  (69, fnO (mdef 8 0) (S "PsFile.__init__") .none (.str (S "postcore.files") 241) 68),
  (75, ob (.type "code") (.fields #[(.str (S "begin") 277), (.str (S "PsFile.begin") 278), (.str (S "/claim/cut.py") 279), (.int (20) 0), (.int (5) 0), (.int (0) 0), (.int (0) 0), (.int (3) 0), (.ref 70), (.bool true), (.int (181) 0), (.ref 71), .none, (.ref 72), (.ref 73), (.ref 74), (.int (285) 0), (.int (20) 0), (.str (S "/claim/cut.py") 286)])),
  (76, fnO (mdef 8 1) (S "PsFile.begin") .none (.str (S "postcore.files") 241) 75),
  (82, ob (.type "code") (.fields #[(.str (S "fetch") 288), (.str (S "PsFile.fetch") 289), (.str (S "/claim/cut.py") 290), (.int (31) 0), (.int (1) 0), (.int (0) 0), (.int (0) 0), (.int (3) 0), (.ref 77), (.bool true), (.int (181) 0), (.ref 78), .none, (.ref 79), (.ref 80), (.ref 81), (.int (292) 0), (.int (31) 0), (.str (S "/claim/cut.py") 293)])),
  (83, fnO (mdef 8 2) (S "PsFile.fetch") .none (.str (S "postcore.files") 241) 82),
  (89, ob (.type "code") (.fields #[(.str (S "put") 295), (.str (S "PsFile.put") 296), (.str (S "/claim/cut.py") 297), (.int (34) 0), (.int (2) 0), (.int (0) 0), (.int (0) 0), (.int (3) 0), (.ref 84), (.bool true), (.int (181) 0), (.ref 85), .none, (.ref 86), (.ref 87), (.ref 88), (.int (300) 0), (.int (34) 0), (.str (S "/claim/cut.py") 301)])),
  (90, fnO (mdef 8 3) (S "PsFile.put") .none (.str (S "postcore.files") 241) 89),
  (96, ob (.type "code") (.fields #[(.str (S "next") 303), (.str (S "PsFile.next") 304), (.str (S "/claim/cut.py") 305), (.int (37) 0), (.int (1) 0), (.int (0) 0), (.int (0) 0), (.int (3) 0), (.ref 91), (.bool true), (.int (181) 0), (.ref 92), .none, (.ref 93), (.ref 94), (.ref 95), (.int (307) 0), (.int (37) 0), (.str (S "/claim/cut.py") 308)])),
  (97, fnO (mdef 8 4) (S "PsFile.next") .none (.str (S "postcore.files") 241) 96),
  (103, ob (.type "code") (.fields #[(.str (S "back") 310), (.str (S "PsFile.back") 311), (.str (S "/claim/cut.py") 312), (.int (48) 0), (.int (1) 0), (.int (0) 0), (.int (0) 0), (.int (3) 0), (.ref 98), (.bool true), (.int (181) 0), (.ref 99), .none, (.ref 100), (.ref 101), (.ref 102), (.int (314) 0), (.int (48) 0), (.str (S "/claim/cut.py") 315)])),
  (104, fnO (mdef 8 5) (S "PsFile.back") .none (.str (S "postcore.files") 241) 103),
  (110, ob (.type "code") (.fields #[(.str (S "check_open") 317), (.str (S "PsFile.check_open") 318), (.str (S "/claim/cut.py") 319), (.int (53) 0), (.int (2) 0), (.int (0) 0), (.int (0) 0), (.int (3) 0), (.ref 105), (.bool true), (.int (181) 0), (.ref 106), .none, (.ref 107), (.ref 108), (.ref 109), (.int (322) 0), (.int (53) 0), (.str (S "/claim/cut.py") 323)])),
  (111, fnO (mdef 8 6) (S "PsFile.check_open") .none (.str (S "postcore.files") 241) 110),
  (117, ob (.type "code") (.fields #[(.str (S "read") 325), (.str (S "PsFile.read") 326), (.str (S "/claim/cut.py") 327), (.int (59) 0), (.int (2) 0), (.int (0) 0), (.int (0) 0), (.int (3) 0), (.ref 112), (.bool true), (.int (181) 0), (.ref 113), .none, (.ref 114), (.ref 115), (.ref 116), (.int (332) 0), (.int (59) 0), (.str (S "/claim/cut.py") 333)])),
  (118, fnO (mdef 8 7) (S "PsFile.read") .none (.str (S "postcore.files") 241) 117),
  (124, ob (.type "code") (.fields #[(.str (S "read_line") 335), (.str (S "PsFile.read_line") 336), (.str (S "/claim/cut.py") 337), (.int (68) 0), (.int (2) 0), (.int (0) 0), (.int (0) 0), (.int (3) 0), (.ref 119), (.bool true), (.int (181) 0), (.ref 120), .none, (.ref 121), (.ref 122), (.ref 123), (.int (340) 0), (.int (68) 0), (.str (S "/claim/cut.py") 341)])),
  (125, fnO (mdef 8 8) (S "PsFile.read_line") .none (.str (S "postcore.files") 241) 124),
  (131, ob (.type "code") (.fields #[(.str (S "write") 343), (.str (S "PsFile.write") 344), (.str (S "/claim/cut.py") 345), (.int (71) 0), (.int (2) 0), (.int (0) 0), (.int (0) 0), (.int (3) 0), (.ref 126), (.bool true), (.int (181) 0), (.ref 127), .none, (.ref 128), (.ref 129), (.ref 130), (.int (348) 0), (.int (71) 0), (.str (S "/claim/cut.py") 349)])),
  (132, fnO (mdef 8 9) (S "PsFile.write") .none (.str (S "postcore.files") 241) 131),
  (138, ob (.type "code") (.fields #[(.str (S "flush") 351), (.str (S "PsFile.flush") 352), (.str (S "/claim/cut.py") 353), (.int (75) 0), (.int (1) 0), (.int (0) 0), (.int (0) 0), (.int (3) 0), (.ref 133), (.bool true), (.int (181) 0), (.ref 134), .none, (.ref 135), (.ref 136), (.ref 137), (.int (355) 0), (.int (75) 0), (.str (S "/claim/cut.py") 356)])),
  (139, fnO (mdef 8 10) (S "PsFile.flush") .none (.str (S "postcore.files") 241) 138),
  (145, ob (.type "code") (.fields #[(.str (S "reset") 358), (.str (S "PsFile.reset") 359), (.str (S "/claim/cut.py") 360), (.int (80) 0), (.int (1) 0), (.int (0) 0), (.int (0) 0), (.int (3) 0), (.ref 140), (.bool true), (.int (181) 0), (.ref 141), .none, (.ref 142), (.ref 143), (.ref 144), (.int (362) 0), (.int (80) 0), (.str (S "/claim/cut.py") 363)])),
  (146, fnO (mdef 8 11) (S "PsFile.reset") .none (.str (S "postcore.files") 241) 145),
  (152, ob (.type "code") (.fields #[(.str (S "close") 365), (.str (S "PsFile.close") 366), (.str (S "/claim/cut.py") 367), (.int (83) 0), (.int (1) 0), (.int (0) 0), (.int (0) 0), (.int (3) 0), (.ref 147), (.bool true), (.int (181) 0), (.ref 148), .none, (.ref 149), (.ref 150), (.ref 151), (.int (369) 0), (.int (83) 0), (.str (S "/claim/cut.py") 370)])),
  (153, fnO (mdef 8 12) (S "PsFile.close") .none (.str (S "postcore.files") 241) 152),
  (159, ob (.type "code") (.fields #[(.str (S "available") 372), (.str (S "PsFile.available") 373), (.str (S "/claim/cut.py") 374), (.int (87) 0), (.int (1) 0), (.int (0) 0), (.int (0) 0), (.int (3) 0), (.ref 154), (.bool true), (.int (181) 0), (.ref 155), .none, (.ref 156), (.ref 157), (.ref 158), (.int (376) 0), (.int (87) 0), (.str (S "/claim/cut.py") 377)])),
  (160, fnO (mdef 8 13) (S "PsFile.available") .none (.str (S "postcore.files") 241) 159),
  (166, ob (.type "code") (.fields #[(.str (S "position") 379), (.str (S "PsFile.position") 380), (.str (S "/claim/cut.py") 381), (.int (90) 0), (.int (1) 0), (.int (0) 0), (.int (0) 0), (.int (3) 0), (.ref 161), (.bool true), (.int (181) 0), (.ref 162), .none, (.ref 163), (.ref 164), (.ref 165), (.int (383) 0), (.int (90) 0), (.str (S "/claim/cut.py") 384)])),
  (167, fnO (mdef 8 14) (S "PsFile.position") .none (.str (S "postcore.files") 241) 166),
  (173, ob (.type "code") (.fields #[(.str (S "set_position") 386), (.str (S "PsFile.set_position") 387), (.str (S "/claim/cut.py") 388), (.int (93) 0), (.int (2) 0), (.int (0) 0), (.int (0) 0), (.int (3) 0), (.ref 168), (.bool true), (.int (181) 0), (.ref 169), .none, (.ref 170), (.ref 171), (.ref 172), (.int (391) 0), (.int (93) 0), (.str (S "/claim/cut.py") 392)])),
  (174, fnO (mdef 8 15) (S "PsFile.set_position") .none (.str (S "postcore.files") 241) 173),
  (176, ob (.type "dict") (.dict #[e P "__module__" 261 (.str (S "postcore.files") 241), e P "__firstlineno__" 265 (.int (15) 264), e P "__init__" 276 (.ref 69), e P "begin" 287 (.ref 76), e P "fetch" 294 (.ref 83), e P "put" 302 (.ref 90), e P "next" 309 (.ref 97), e P "back" 316 (.ref 104), e P "check_open" 324 (.ref 111), e P "read" 334 (.ref 118), e P "read_line" 342 (.ref 125), e P "write" 350 (.ref 132), e P "flush" 357 (.ref 139), e P "reset" 364 (.ref 146), e P "close" 371 (.ref 153), e P "available" 378 (.ref 160), e P "position" 385 (.ref 167), e P "set_position" 393 (.ref 174), e P "__static_attributes__" 403 (.ref 175), e P "__dict__" 405 (.ref 178), e P "__weakref__" 407 (.ref 179), e P "__doc__" 408 .none] 4)),
  (177, ⟨(.type "type"), none, .cls { name := (S "PsFile"), bases := [(.type "object")], mro := [(.ref 177), (.type "object")], ns := 176, qualname := (S "PsFile"), hasDict := true, slotNames := [], subclasses := [(.ref 226), (.ref 280), (.ref 320)], abstract := false, collection := none, hasDel := false }, #[none, none, (some (.str (S "PsFile") 254)), (some (.str (S "PsFile") 262)), (some (.builtin "object.__new__")), (some (.bool true))]⟩),
  (194, ob (.type "code") (.fields #[(.str (S "__init__") 423), (.str (S "OctetReader.__init__") 424), (.str (S "/claim/cut.py") 425), (.int (97) 0), (.int (4) 0), (.int (0) 0), (.int (0) 0), (.int (3) 0), (.ref 189), (.bool true), (.int (181) 0), (.ref 190), .none, (.ref 191), (.ref 192), (.ref 193), (.int (430) 0), (.int (97) 0), (.str (S "/claim/cut.py") 431)])),
  (195, fnO (mdef 9 0) (S "OctetReader.__init__") .none (.str (S "postcore.files") 241) 194),
  (201, ob (.type "code") (.fields #[(.str (S "fetch") 433), (.str (S "OctetReader.fetch") 434), (.str (S "/claim/cut.py") 435), (.int (102) 0), (.int (1) 0), (.int (0) 0), (.int (0) 0), (.int (3) 0), (.ref 196), (.bool true), (.int (181) 0), (.ref 197), .none, (.ref 198), (.ref 199), (.ref 200), (.int (437) 0), (.int (102) 0), (.str (S "/claim/cut.py") 438)])),
  (202, fnO (mdef 9 1) (S "OctetReader.fetch") .none (.str (S "postcore.files") 241) 201),
  (208, ob (.type "code") (.fields #[(.str (S "available") 440), (.str (S "OctetReader.available") 441), (.str (S "/claim/cut.py") 442), (.int (108) 0), (.int (1) 0), (.int (0) 0), (.int (0) 0), (.int (3) 0), (.ref 203), (.bool true), (.int (181) 0), (.ref 204), .none, (.ref 205), (.ref 206), (.ref 207), (.int (444) 0), (.int (108) 0), (.str (S "/claim/cut.py") 445)])),
  (209, fnO (mdef 9 2) (S "OctetReader.available") .none (.str (S "postcore.files") 241) 208),
  (215, ob (.type "code") (.fields #[(.str (S "position") 447), (.str (S "OctetReader.position") 448), (.str (S "/claim/cut.py") 449), (.int (111) 0), (.int (1) 0), (.int (0) 0), (.int (0) 0), (.int (3) 0), (.ref 210), (.bool true), (.int (181) 0), (.ref 211), .none, (.ref 212), (.ref 213), (.ref 214), (.int (451) 0), (.int (111) 0), (.str (S "/claim/cut.py") 452)])),
  (216, fnO (mdef 9 3) (S "OctetReader.position") .none (.str (S "postcore.files") 241) 215),
  (222, ob (.type "code") (.fields #[(.str (S "set_position") 454), (.str (S "OctetReader.set_position") 455), (.str (S "/claim/cut.py") 456), (.int (115) 0), (.int (2) 0), (.int (0) 0), (.int (0) 0), (.int (3) 0), (.ref 217), (.bool true), (.int (181) 0), (.ref 218), .none, (.ref 219), (.ref 220), (.ref 221), (.int (459) 0), (.int (115) 0), (.str (S "/claim/cut.py") 460)])),
  (223, fnO (mdef 9 4) (S "OctetReader.set_position") .none (.str (S "postcore.files") 241) 222),
  (225, ob (.type "dict") (.dict #[e P "__module__" 418 (.str (S "postcore.files") 241), e P "__firstlineno__" 422 (.int (95) 421), e P "__init__" 432 (.ref 195), e P "fetch" 439 (.ref 202), e P "available" 446 (.ref 209), e P "position" 453 (.ref 216), e P "set_position" 461 (.ref 223), e P "__static_attributes__" 467 (.ref 224), e P "__doc__" 468 .none] 2)),
  (226, ⟨(.type "type"), none, .cls { name := (S "OctetReader"), bases := [(.ref 177)], mro := [(.ref 226), (.ref 177), (.type "object")], ns := 225, qualname := (S "OctetReader"), hasDict := true, slotNames := [], subclasses := [], abstract := false, collection := none, hasDel := false }, #[(some (.ref 182)), none, (some (.str (S "OctetReader") 411)), (some (.str (S "OctetReader") 419)), (some (.builtin "object.__new__")), (some (.bool true))]⟩),
  (241, ob (.type "code") (.fields #[(.str (S "__init__") 483), (.str (S "DiskFile.__init__") 484), (.str (S "/claim/cut.py") 485), (.int (124) 0), (.int (6) 0), (.int (0) 0), (.int (0) 0), (.int (3) 0), (.ref 236), (.bool true), (.int (181) 0), (.ref 237), .none, (.ref 238), (.ref 239), (.ref 240), (.int (492) 0), (.int (124) 0), (.str (S "/claim/cut.py") 493)])),
  (242, fnO (mdef 10 0) (S "DiskFile.__init__") .none (.str (S "postcore.files") 241) 241),
  (248, ob (.type "code") (.fields #[(.str (S "fetch") 495), (.str (S "DiskFile.fetch") 496), (.str (S "/claim/cut.py") 497), (.int (129) 0), (.int (1) 0), (.int (0) 0), (.int (0) 0), (.int (3) 0), (.ref 243), (.bool true), (.int (181) 0), (.ref 244), .none, (.ref 245), (.ref 246), (.ref 247), (.int (500) 0), (.int (129) 0), (.str (S "/claim/cut.py") 501)])),
  (249, fnO (mdef 10 1) (S "DiskFile.fetch") .none (.str (S "postcore.files") 241) 248),
  (255, ob (.type "code") (.fields #[(.str (S "put") 503), (.str (S "DiskFile.put") 504), (.str (S "/claim/cut.py") 505), (.int (136) 0), (.int (2) 0), (.int (0) 0), (.int (0) 0), (.int (3) 0), (.ref 250), (.bool true), (.int (181) 0), (.ref 251), .none, (.ref 252), (.ref 253), (.ref 254), (.int (510) 0), (.int (136) 0), (.str (S "/claim/cut.py") 511)])),
  (256, fnO (mdef 10 2) (S "DiskFile.put") .none (.str (S "postcore.files") 241) 255),
  (262, ob (.type "code") (.fields #[(.str (S "available") 513), (.str (S "DiskFile.available") 514), (.str (S "/claim/cut.py") 515), (.int (145) 0), (.int (1) 0), (.int (0) 0), (.int (0) 0), (.int (3) 0), (.ref 257), (.bool true), (.int (181) 0), (.ref 258), .none, (.ref 259), (.ref 260), (.ref 261), (.int (517) 0), (.int (145) 0), (.str (S "/claim/cut.py") 518)])),
  (263, fnO (mdef 10 3) (S "DiskFile.available") .none (.str (S "postcore.files") 241) 262),
  (269, ob (.type "code") (.fields #[(.str (S "position") 520), (.str (S "DiskFile.position") 521), (.str (S "/claim/cut.py") 522), (.int (148) 0), (.int (1) 0), (.int (0) 0), (.int (0) 0), (.int (3) 0), (.ref 264), (.bool true), (.int (181) 0), (.ref 265), .none, (.ref 266), (.ref 267), (.ref 268), (.int (524) 0), (.int (148) 0), (.str (S "/claim/cut.py") 525)])),
  (270, fnO (mdef 10 4) (S "DiskFile.position") .none (.str (S "postcore.files") 241) 269),
  (276, ob (.type "code") (.fields #[(.str (S "set_position") 527), (.str (S "DiskFile.set_position") 528), (.str (S "/claim/cut.py") 529), (.int (152) 0), (.int (2) 0), (.int (0) 0), (.int (0) 0), (.int (3) 0), (.ref 271), (.bool true), (.int (181) 0), (.ref 272), .none, (.ref 273), (.ref 274), (.ref 275), (.int (532) 0), (.int (152) 0), (.str (S "/claim/cut.py") 533)])),
  (277, fnO (mdef 10 5) (S "DiskFile.set_position") .none (.str (S "postcore.files") 241) 276),
  (279, ob (.type "dict") (.dict #[e P "__module__" 478 (.str (S "postcore.files") 241), e P "__firstlineno__" 482 (.int (122) 481), e P "__init__" 494 (.ref 242), e P "fetch" 502 (.ref 249), e P "put" 512 (.ref 256), e P "available" 519 (.ref 263), e P "position" 526 (.ref 270), e P "set_position" 534 (.ref 277), e P "__static_attributes__" 540 (.ref 278), e P "__doc__" 541 .none] 2)),
  (280, ⟨(.type "type"), none, .cls { name := (S "DiskFile"), bases := [(.ref 177)], mro := [(.ref 280), (.ref 177), (.type "object")], ns := 279, qualname := (S "DiskFile"), hasDict := true, slotNames := [], subclasses := [], abstract := false, collection := none, hasDel := false }, #[(some (.ref 229)), none, (some (.str (S "DiskFile") 471)), (some (.str (S "DiskFile") 479)), (some (.builtin "object.__new__")), (some (.bool true))]⟩),
  (295, ob (.type "code") (.fields #[(.str (S "__init__") 556), (.str (S "StandardOut.__init__") 557), (.str (S "/claim/cut.py") 558), (.int (161) 0), (.int (3) 0), (.int (0) 0), (.int (0) 0), (.int (3) 0), (.ref 290), (.bool true), (.int (181) 0), (.ref 291), .none, (.ref 292), (.ref 293), (.ref 294), (.int (562) 0), (.int (161) 0), (.str (S "/claim/cut.py") 563)])),
  (296, fnO (mdef 11 0) (S "StandardOut.__init__") .none (.str (S "postcore.files") 241) 295),
  (302, ob (.type "code") (.fields #[(.str (S "put") 565), (.str (S "StandardOut.put") 566), (.str (S "/claim/cut.py") 567), (.int (165) 0), (.int (2) 0), (.int (0) 0), (.int (0) 0), (.int (3) 0), (.ref 297), (.bool true), (.int (181) 0), (.ref 298), .none, (.ref 299), (.ref 300), (.ref 301), (.int (570) 0), (.int (165) 0), (.str (S "/claim/cut.py") 571)])),
  (303, fnO (mdef 11 1) (S "StandardOut.put") .none (.str (S "postcore.files") 241) 302),
  (309, ob (.type "code") (.fields #[(.str (S "told") 573), (.str (S "StandardOut.told") 574), (.str (S "/claim/cut.py") 575), (.int (168) 0), (.int (1) 0), (.int (0) 0), (.int (0) 0), (.int (3) 0), (.ref 304), (.bool true), (.int (181) 0), (.ref 305), .none, (.ref 306), (.ref 307), (.ref 308), (.int (577) 0), (.int (168) 0), (.str (S "/claim/cut.py") 578)])),
  (310, fnO (mdef 11 2) (S "StandardOut.told") .none (.str (S "postcore.files") 241) 309),
  (316, ob (.type "code") (.fields #[(.str (S "close") 580), (.str (S "StandardOut.close") 581), (.str (S "/claim/cut.py") 582), (.int (171) 0), (.int (1) 0), (.int (0) 0), (.int (0) 0), (.int (3) 0), (.ref 311), (.bool true), (.int (181) 0), (.ref 312), .none, (.ref 313), (.ref 314), (.ref 315), (.int (584) 0), (.int (171) 0), (.str (S "/claim/cut.py") 585)])),
  (317, fnO (mdef 11 3) (S "StandardOut.close") .none (.str (S "postcore.files") 241) 316),
  (319, ob (.type "dict") (.dict #[e P "__module__" 551 (.str (S "postcore.files") 241), e P "__firstlineno__" 555 (.int (159) 554), e P "__init__" 564 (.ref 296), e P "put" 572 (.ref 303), e P "told" 579 (.ref 310), e P "close" 586 (.ref 317), e P "__static_attributes__" 588 (.ref 318), e P "__doc__" 589 .none] 2)),
  (320, ⟨(.type "type"), none, .cls { name := (S "StandardOut"), bases := [(.ref 177)], mro := [(.ref 320), (.ref 177), (.type "object")], ns := 319, qualname := (S "StandardOut"), hasDict := true, slotNames := [], subclasses := [], abstract := false, collection := none, hasDel := false }, #[(some (.ref 283)), none, (some (.str (S "StandardOut") 544)), (some (.str (S "StandardOut") 552)), (some (.builtin "object.__new__")), (some (.bool true))]⟩),
  (328, ob (.type "code") (.fields #[(.str (S "file_device_name") 592), (.str (S "file_device_name") 593), (.str (S "/claim/cut.py") 594), (.int (173) 0), (.int (1) 0), (.int (0) 0), (.int (0) 0), (.int (3) 0), (.ref 323), (.bool true), (.int (181) 0), (.ref 324), .none, (.ref 325), (.ref 326), (.ref 327), (.int (596) 0), (.int (173) 0), (.str (S "/claim/cut.py") 597)])),
  (329, fnO (fdef 12) (S "file_device_name") .none (.str (S "postcore.files") 241) 328),
  (337, ob (.type "tuple") (.seq #[.none] 0)),
  (343, ob (.type "code") (.fields #[(.str (S "__init__") 611), (.str (S "FileTable.__init__") 612), (.str (S "/claim/cut.py") 613), (.int (177) 0), (.int (3) 0), (.int (0) 0), (.int (0) 0), (.int (3) 0), (.ref 338), (.bool true), (.int (181) 0), (.ref 339), .none, (.ref 340), (.ref 341), (.ref 342), (.int (617) 0), (.int (177) 0), (.str (S "/claim/cut.py") 618)])),
  (344, fnO (mdef 13 0) (S "FileTable.__init__") (.ref 337) (.str (S "postcore.files") 241) 343),
  (350, ob (.type "code") (.fields #[(.str (S "new_number") 620), (.str (S "FileTable.new_number") 621), (.str (S "/claim/cut.py") 622), (.int (186) 0), (.int (1) 0), (.int (0) 0), (.int (0) 0), (.int (3) 0), (.ref 345), (.bool true), (.int (181) 0), (.ref 346), .none, (.ref 347), (.ref 348), (.ref 349), (.int (624) 0), (.int (186) 0), (.str (S "/claim/cut.py") 625)])),
  (351, fnO (mdef 13 1) (S "FileTable.new_number") .none (.str (S "postcore.files") 241) 350),
  (357, ob (.type "code") (.fields #[(.str (S "standard") 627), (.str (S "FileTable.standard") 628), (.str (S "/claim/cut.py") 629), (.int (190) 0), (.int (3) 0), (.int (0) 0), (.int (0) 0), (.int (3) 0), (.ref 352), (.bool true), (.int (181) 0), (.ref 353), .none, (.ref 354), (.ref 355), (.ref 356), (.int (634) 0), (.int (190) 0), (.str (S "/claim/cut.py") 635)])),
  (358, fnO (mdef 13 2) (S "FileTable.standard") .none (.str (S "postcore.files") 241) 357),
  (362, ob (.type "code") (.fields #[(.str (S "check_room") 637), (.str (S "FileTable.check_room") 638), (.str (S "/claim/cut.py") 639), (.int (202) 0), (.int (2) 0), (.int (0) 0), (.int (0) 0), (.int (3) 0), (.ref 359), (.bool true), (.int (181) 0), (.ref 360), .none, .none, .none, (.ref 361), (.int (640) 0), (.int (202) 0), (.str (S "/claim/cut.py") 641)])),
  (363, fnO (mdef 13 3) (S "FileTable.check_room") .none (.str (S "postcore.files") 241) 362),
  (369, ob (.type "code") (.fields #[(.str (S "open") 643), (.str (S "FileTable.open") 644), (.str (S "/claim/cut.py") 645), (.int (209) 0), (.int (3) 0), (.int (0) 0), (.int (0) 0), (.int (3) 0), (.ref 364), (.bool true), (.int (181) 0), (.ref 365), .none, (.ref 366), (.ref 367), (.ref 368), (.int (651) 0), (.int (209) 0), (.str (S "/claim/cut.py") 652)])),
  (370, fnO (mdef 13 4) (S "FileTable.open") .none (.str (S "postcore.files") 241) 369),
  (374, ob (.type "code") (.fields #[(.str (S "writers") 654), (.str (S "FileTable.writers") 655), (.str (S "/claim/cut.py") 656), (.int (228) 0), (.int (2) 0), (.int (0) 0), (.int (0) 0), (.int (3) 0), (.ref 371), (.bool true), (.int (181) 0), (.ref 372), .none, .none, .none, (.ref 373), (.int (657) 0), (.int (228) 0), (.str (S "/claim/cut.py") 658)])),
  (375, fnO (mdef 13 5) (S "FileTable.writers") .none (.str (S "postcore.files") 241) 374),
  (381, ob (.type "code") (.fields #[(.str (S "size_of") 660), (.str (S "FileTable.size_of") 661), (.str (S "/claim/cut.py") 662), (.int (231) 0), (.int (2) 0), (.int (0) 0), (.int (0) 0), (.int (3) 0), (.ref 376), (.bool true), (.int (181) 0), (.ref 377), .none, (.ref 378), (.ref 379), (.ref 380), (.int (666) 0), (.int (231) 0), (.str (S "/claim/cut.py") 667)])),
  (382, fnO (mdef 13 6) (S "FileTable.size_of") .none (.str (S "postcore.files") 241) 381),
  (388, ob (.type "code") (.fields #[(.str (S "known") 669), (.str (S "FileTable.known") 670), (.str (S "/claim/cut.py") 671), (.int (235) 0), (.int (2) 0), (.int (0) 0), (.int (0) 0), (.int (3) 0), (.ref 383), (.bool true), (.int (181) 0), (.ref 384), .none, (.ref 385), (.ref 386), (.ref 387), (.int (675) 0), (.int (235) 0), (.str (S "/claim/cut.py") 676)])),
  (389, fnO (mdef 13 7) (S "FileTable.known") .none (.str (S "postcore.files") 241) 388),
  (395, ob (.type "code") (.fields #[(.str (S "delete") 678), (.str (S "FileTable.delete") 679), (.str (S "/claim/cut.py") 680), (.int (241) 0), (.int (2) 0), (.int (0) 0), (.int (0) 0), (.int (3) 0), (.ref 390), (.bool true), (.int (181) 0), (.ref 391), .none, (.ref 392), (.ref 393), (.ref 394), (.int (685) 0), (.int (241) 0), (.str (S "/claim/cut.py") 686)])),
  (396, fnO (mdef 13 8) (S "FileTable.delete") .none (.str (S "postcore.files") 241) 395),
  (402, ob (.type "code") (.fields #[(.str (S "rename") 688), (.str (S "FileTable.rename") 689), (.str (S "/claim/cut.py") 690), (.int (247) 0), (.int (3) 0), (.int (0) 0), (.int (0) 0), (.int (3) 0), (.ref 397), (.bool true), (.int (181) 0), (.ref 398), .none, (.ref 399), (.ref 400), (.ref 401), (.int (698) 0), (.int (247) 0), (.str (S "/claim/cut.py") 699)])),
  (403, fnO (mdef 13 9) (S "FileTable.rename") .none (.str (S "postcore.files") 241) 402),
  (409, ob (.type "code") (.fields #[(.str (S "matching") 701), (.str (S "FileTable.matching") 702), (.str (S "/claim/cut.py") 703), (.int (260) 0), (.int (2) 0), (.int (0) 0), (.int (0) 0), (.int (3) 0), (.ref 404), (.bool true), (.int (181) 0), (.ref 405), .none, (.ref 406), (.ref 407), (.ref 408), (.int (706) 0), (.int (260) 0), (.str (S "/claim/cut.py") 707)])),
  (410, fnO (mdef 13 10) (S "FileTable.matching") .none (.str (S "postcore.files") 241) 409),
  (412, ob (.type "dict") (.dict #[e P "__module__" 606 (.str (S "postcore.files") 241), e P "__firstlineno__" 610 (.int (175) 609), e P "__init__" 619 (.ref 344), e P "new_number" 626 (.ref 351), e P "standard" 636 (.ref 358), e P "check_room" 642 (.ref 363), e P "open" 653 (.ref 370), e P "writers" 659 (.ref 375), e P "size_of" 668 (.ref 382), e P "known" 677 (.ref 389), e P "delete" 687 (.ref 396), e P "rename" 700 (.ref 403), e P "matching" 708 (.ref 410), e P "__static_attributes__" 716 (.ref 411), e P "__dict__" 718 (.ref 414), e P "__weakref__" 720 (.ref 415), e P "__doc__" 721 .none] 4)),
  (413, ⟨(.type "type"), none, .cls { name := (S "FileTable"), bases := [(.type "object")], mro := [(.ref 413), (.type "object")], ns := 412, qualname := (S "FileTable"), hasDict := true, slotNames := [], subclasses := [], abstract := false, collection := none, hasDel := false }, #[none, none, (some (.str (S "FileTable") 599)), (some (.str (S "FileTable") 607)), (some (.builtin "object.__new__")), (some (.bool true))]⟩),
  (423, ob (.type "code") (.fields #[(.str (S "_law_names") 726), (.str (S "_law_names") 727), (.str (S "/claim/cut.py") 728), (.int (263) 0), (.int (0) 0), (.int (0) 0), (.int (0) 0), (.int (3) 0), (.ref 418), (.bool true), (.int (181) 0), (.ref 419), .none, (.ref 420), (.ref 421), (.ref 422), (.int (729) 0), (.int (263) 0), (.str (S "/claim/cut.py") 730)])),
  (424, fnO (fdef 15) (S "_law_names") .none (.str (S "law_rh0181_01") 724) 423),
  (425, ob (.type "tuple") (.seq #[(.bytes #[114] 732), (.bytes #[119] 733), (.bytes #[97] 734), (.bytes #[114, 43] 735), (.bytes #[119, 43] 736), (.bytes #[97, 43] 737), (.bytes #[113] 738)] 0)),
  (426, ob (.type "tuple") (.seq #[(.bytes #[120] 740), (.bytes #[121, 122] 741), (.bytes #[] 742), (.bytes #[0, 255, 10] 743), (.bytes #[49, 50, 51, 52, 53] 744)] 0)),
  (432, ob (.type "code") (.fields #[(.str (S "_law_draw") 746), (.str (S "_law_draw") 747), (.str (S "/claim/cut.py") 748), (.int (267) 0), (.int (2) 0), (.int (0) 0), (.int (0) 0), (.int (3) 0), (.ref 427), (.bool true), (.int (181) 0), (.ref 428), .none, (.ref 429), (.ref 430), (.ref 431), (.int (752) 0), (.int (267) 0), (.str (S "/claim/cut.py") 753)])),
  (433, fnO (fdef 18) (S "_law_draw") .none (.str (S "law_rh0181_01") 724) 432),
  (439, ob (.type "code") (.fields #[(.str (S "_law_plain") 755), (.str (S "_law_plain") 756), (.str (S "/claim/cut.py") 757), (.int (271) 0), (.int (1) 0), (.int (0) 0), (.int (0) 0), (.int (3) 0), (.ref 434), (.bool true), (.int (181) 0), (.ref 435), .none, (.ref 436), (.ref 437), (.ref 438), (.int (759) 0), (.int (271) 0), (.str (S "/claim/cut.py") 760)])),
  (440, fnO (fdef 19) (S "_law_plain") .none (.str (S "law_rh0181_01") 724) 439),
  (446, ob (.type "code") (.fields #[(.str (S "_law_has") 762), (.str (S "_law_has") 763), (.str (S "/claim/cut.py") 764), (.int (273) 0), (.int (2) 0), (.int (0) 0), (.int (0) 0), (.int (3) 0), (.ref 441), (.bool true), (.int (181) 0), (.ref 442), .none, (.ref 443), (.ref 444), (.ref 445), (.int (767) 0), (.int (273) 0), (.str (S "/claim/cut.py") 768)])),
  (447, fnO (fdef 20) (S "_law_has") .none (.str (S "law_rh0181_01") 724) 446),
  (453, ob (.type "code") (.fields #[(.str (S "_law_shut") 770), (.str (S "_law_shut") 771), (.str (S "/claim/cut.py") 772), (.int (275) 0), (.int (2) 0), (.int (0) 0), (.int (0) 0), (.int (3) 0), (.ref 448), (.bool true), (.int (181) 0), (.ref 449), .none, (.ref 450), (.ref 451), (.ref 452), (.int (776) 0), (.int (275) 0), (.str (S "/claim/cut.py") 777)])),
  (454, fnO (fdef 21) (S "_law_shut") .none (.str (S "law_rh0181_01") 724) 453),
  (458, ob (.type "code") (.fields #[(.str (S "_law_opened") 779), (.str (S "_law_opened") 780), (.str (S "/claim/cut.py") 781), (.int (279) 0), (.int (3) 0), (.int (0) 0), (.int (0) 0), (.int (3) 0), (.ref 455), (.bool true), (.int (181) 0), (.ref 456), .none, .none, .none, (.ref 457), (.int (782) 0), (.int (279) 0), (.str (S "/claim/cut.py") 783)])),
  (459, fnO (fdef 22) (S "_law_opened") .none (.str (S "law_rh0181_01") 724) 458),
  (465, ob (.type "code") (.fields #[(.str (S "_law_written") 785), (.str (S "_law_written") 786), (.str (S "/claim/cut.py") 787), (.int (309) 0), (.int (3) 0), (.int (0) 0), (.int (0) 0), (.int (3) 0), (.ref 460), (.bool true), (.int (181) 0), (.ref 461), .none, (.ref 462), (.ref 463), (.ref 464), (.int (796) 0), (.int (309) 0), (.str (S "/claim/cut.py") 797)])),
  (466, fnO (fdef 23) (S "_law_written") .none (.str (S "law_rh0181_01") 724) 465),
  (472, ob (.type "code") (.fields #[(.str (S "_law_read") 799), (.str (S "_law_read") 800), (.str (S "/claim/cut.py") 801), (.int (324) 0), (.int (3) 0), (.int (0) 0), (.int (0) 0), (.int (3) 0), (.ref 467), (.bool true), (.int (181) 0), (.ref 468), .none, (.ref 469), (.ref 470), (.ref 471), (.int (807) 0), (.int (324) 0), (.str (S "/claim/cut.py") 808)])),
  (473, fnO (fdef 24) (S "_law_read") .none (.str (S "law_rh0181_01") 724) 472),
  (479, ob (.type "code") (.fields #[(.str (S "_law_placed") 810), (.str (S "_law_placed") 811), (.str (S "/claim/cut.py") 812), (.int (333) 0), (.int (3) 0), (.int (0) 0), (.int (0) 0), (.int (3) 0), (.ref 474), (.bool true), (.int (181) 0), (.ref 475), .none, (.ref 476), (.ref 477), (.ref 478), (.int (820) 0), (.int (333) 0), (.str (S "/claim/cut.py") 821)])),
  (480, fnO (fdef 25) (S "_law_placed") .none (.str (S "law_rh0181_01") 724) 479),
  (486, ob (.type "code") (.fields #[(.str (S "_law_moved") 823), (.str (S "_law_moved") 824), (.str (S "/claim/cut.py") 825), (.int (347) 0), (.int (3) 0), (.int (0) 0), (.int (0) 0), (.int (3) 0), (.ref 481), (.bool true), (.int (181) 0), (.ref 482), .none, (.ref 483), (.ref 484), (.ref 485), (.int (836) 0), (.int (347) 0), (.str (S "/claim/cut.py") 837)])),
  (487, fnO (fdef 26) (S "_law_moved") .none (.str (S "law_rh0181_01") 724) 486),
  (493, ob (.type "code") (.fields #[(.str (S "_law_gone") 839), (.str (S "_law_gone") 840), (.str (S "/claim/cut.py") 841), (.int (366) 0), (.int (3) 0), (.int (0) 0), (.int (0) 0), (.int (3) 0), (.ref 488), (.bool true), (.int (181) 0), (.ref 489), .none, (.ref 490), (.ref 491), (.ref 492), (.int (849) 0), (.int (366) 0), (.str (S "/claim/cut.py") 850)])),
  (494, fnO (fdef 27) (S "_law_gone") .none (.str (S "law_rh0181_01") 724) 493),
  (500, ob (.type "code") (.fields #[(.str (S "_law_stands") 852), (.str (S "_law_stands") 853), (.str (S "/claim/cut.py") 854), (.int (377) 0), (.int (1) 0), (.int (0) 0), (.int (0) 0), (.int (3) 0), (.ref 495), (.bool true), (.int (181) 0), (.ref 496), .none, (.ref 497), (.ref 498), (.ref 499), (.int (857) 0), (.int (377) 0), (.str (S "/claim/cut.py") 858)])),
  (501, fnO (fdef 28) (S "_law_stands") .none (.str (S "law_rh0181_01") 724) 500),
  (505, ob (.type "code") (.fields #[(.str (S "_law_is_right") 860), (.str (S "_law_is_right") 861), (.str (S "/claim/cut.py") 862), (.int (382) 0), (.int (2) 0), (.int (0) 0), (.int (0) 0), (.int (3) 0), (.ref 502), (.bool true), (.int (181) 0), (.ref 503), .none, .none, .none, (.ref 504), (.int (863) 0), (.int (382) 0), (.str (S "/claim/cut.py") 864)])),
  (506, fnO (fdef 29) (S "_law_is_right") .none (.str (S "law_rh0181_01") 724) 505),
  (510, ob (.type "code") (.fields #[(.str (S "law") 866), (.str (S "law") 867), (.str (S "/claim/cut.py") 868), (.int (392) 0), (.int (1) 0), (.int (0) 0), (.int (0) 0), (.int (3) 0), (.ref 507), (.bool true), (.int (181) 0), (.ref 508), .none, .none, .none, (.ref 509), (.int (869) 0), (.int (392) 0), (.str (S "/claim/cut.py") 870)])),
  (511, fnO (fdef 30) (S "law") .none (.str (S "law_rh0181_01") 724) 510)]

noncomputable def addrs : List Addr := [3, 20, 21, 29, 35, 36, 38, 39, 51, 52, 55, 68, 69, 75, 76, 82, 83, 89, 90, 96, 97, 103, 104, 110, 111, 117, 118, 124, 125, 131, 132, 138, 139, 145, 146, 152, 153, 159, 160, 166, 167, 173, 174, 176, 177, 194, 195, 201, 202, 208, 209, 215, 216, 222, 223, 225, 226, 241, 242, 248, 249, 255, 256, 262, 263, 269, 270, 276, 277, 279, 280, 295, 296, 302, 303, 309, 310, 316, 317, 319, 320, 328, 329, 337, 343, 344, 350, 351, 357, 358, 362, 363, 369, 370, 374, 375, 381, 382, 388, 389, 395, 396, 402, 403, 409, 410, 412, 413, 423, 424, 425, 426, 432, 433, 439, 440, 446, 447, 453, 454, 458, 459, 465, 466, 472, 473, 479, 480, 486, 487, 493, 494, 500, 501, 505, 506, 510, 511]
noncomputable def Kk : PySem.W.Hook := kHook K addrs (fun _ => rfl)

-- the top's run
noncomputable def env0 : Env := { scope := pw.main.scope, locals := mainNs, globals := mainNs, cells := [], code := .ref 13, frame := some 14 }
noncomputable def body0 : List Stmt := behindTheImports pw
noncomputable def cd0 : Code := .body body0 env0
noncomputable def objsA (P : Params) : List Obj := [boot_o_0 P, boot_o_1 P, boot_o_2 P, boot_o_3 P, boot_o_4 P, boot_o_5 P, boot_o_6 P, boot_o_7 P, boot_o_8 P, boot_o_9 P, boot_o_10 P,
  ob (.type "tuple") (.seq #[]), ob .none (.fields #[]),
  ob (.type "code") (.fields #[.str (S "<module>") 182, .str (S "<module>") 183, .str (S "/claim/cut.py") 184, .int 1 0, .int 0 0, .int 0 0, .int 0 0, .int 0 0, .ref 11, .bool false, .int 181 0, .ref 12, .none, .none, .none, .none, .int 185 0, .int 1 0, .str (S "/claim/cut.py") 186]),
  ⟨.type "frame", none, .plain, #[some (.ref 13), some (.ref 3), some (.ref 3), none, some (.str (S "__main__") 164), none, some (.ref 0)]⟩]
noncomputable def treeA (P : Params) : BT := ((objsA P).foldl (fun (x : BT × Nat) o => (x.1.ins x.2 o, x.2 + 1)) (.nil, 0)).1
noncomputable def saT (w : World) (os : OsState) : SharedT := ⟨treeA w.params, 15, (boot_heap w.params).life, #[], boot_drawn, 187, os⟩
noncomputable def saL (w : World) (os : OsState) : Shared := ⟨⟨(objsA w.params).toArray, (boot_heap w.params).life⟩, #[], boot_drawn, 187, os⟩
theorem sa_abs (w : World) (os : OsState) : (saT w os).abs = saL w os := by kernel_rfl!
noncomputable def s0 (w : World) (os : OsState) : Shared := ⟨boot_heap w.params, #[], boot_drawn, boot_toks, os⟩
noncomputable def pos0 : Pos := ⟨0, 0, 0, 0⟩
noncomputable def B0 : List Frame := [topFrame pos0]
theorem pre_ok (w : World) (os : OsState) : topGo treeTable pw w 11 (some (.ref 6)) 12 (s0 w os) (topStub pw) = some (saL w os, ⟨denote treeTable cd0, cd0, pos0, B0⟩) := by kernel_rfl!
end
end Mine
end
section
set_option maxHeartbeats 0
namespace Mine
noncomputable section
noncomputable def qv : Program := { pw with main := { pw.main with body := pw.main.body.drop 30 } }
noncomputable def looseN : List Str := ["_wall", "PostError", "PsError", "FILE_ACCESSES", "FILE_MOST_NAME", "FILE_DEVICE", "PsFile", "OctetReader", "DiskFile", "StandardOut", "file_device_name", "FileTable", "_law_names", "_law_ways", "_law_texts", "_law_draw", "_law_plain", "_law_has", "_law_shut", "_law_opened", "_law_written", "_law_read", "_law_placed", "_law_moved", "_law_gone", "_law_stands", "_law_is_right"]
noncomputable def posF : Pos := ⟨392, 0, 409, 15⟩
noncomputable def chk (w : World) (s : Shared) := (staticsOk [] (boot_heap w.params) s.heap && namesBound pw s.heap && gensDone s && laidKept (boot_heap w.params) s.heap, openSeen qv looseN [] (fun _ => true) true s, Kk.obs s)
theorem eval_ok (w : World) (os : OsState) :
   (segRunT treeTable pw w 11 (some (.ref 6)) 1 3422 (saT w os) (piecesOf body0 env0 cd0 pos0 B0)).map (fun r => (r.1, r.2.2.1, r.2.2.2, chk w r.2.1.abs)) =
     some (.next, cd0, posF, (true, openGood qv looseN, Kk.val w)) := by
  unfold chk
  rw [Fast.te10110043849684766642, Fast.te14364793385576792824, Fast.te4187177175401517315]
  kernel_rfl!
end
end Mine
end
section
set_option maxHeartbeats 400000
namespace Mine
noncomputable section
abbrev rwL : OpenLaw := PySem.Challenge.rw_rh0181_01
theorem left_of {p q : Program} {loose : List Str} {Xt : Shared → Bool} {α : Type} {Yf : Shared → α} {Ya : World → α} {N : Nat} {H₀ : Params → Heap} {gs₀ : Array GenState} {d₀ : Drawn} {k₀ : Nat} {m₀ : Nat} {ann : Option Value} {M : Nat} {mods : List Str}
    (hm : importedModules p.main.body = mods)
    (open_ : ∀ w : World, (fencedOpening treeTable p w N).map (fun s => (s.heap, s.gens, s.drawn, s.toks)) = some (H₀ w.params, gs₀, d₀, k₀))
    (size : ∀ w : World, ((H₀ w.params).isNs mainGlobals && gs₀.size == 0, (H₀ w.params).objs.size, (H₀ w.params).nsMap mainGlobals "__annotations__") = (true, m₀, ann))
    (run : ∀ (w : World) (os : OsState), ∃ s₁, topRun treeTable p w m₀ ann M ⟨H₀ w.params, gs₀, d₀, k₀, os⟩ (topStub p) = some s₁ ∧
      (staticsOk mods (H₀ w.params) s₁.heap && namesBound p s₁.heap && gensDone s₁ && laidKept (H₀ w.params) s₁.heap, openSeen q loose mods Xt true s₁, Yf s₁) = (true, openGood q loose, Ya w)) (le : Nat.ble M N = true) :
    LeftO p q loose Xt Yf Ya N := fun w => by
  obtain ⟨⟨h, gs, d, k, os⟩, e, e'⟩ := Option.map_eq_some_iff.mp (open_ w)
  simp only [Prod.mk.injEq] at e'
  obtain ⟨rfl, rfl, rfl, rfl⟩ := e'
  obtain ⟨s₁, h1, h2⟩ := run w os
  obtain ⟨z1, z2, z3⟩ : _ ∧ _ ∧ _ := by simpa only [Prod.mk.injEq] using size w
  obtain ⟨l1, l2, l3⟩ : _ ∧ _ ∧ _ := by simpa only [Prod.mk.injEq] using h2
  have r := topRun_mono (N - M) _ _ _ _ h1
  rw [show M + (N - M) = N by have := Nat.le_of_ble_eq_true le; omega] at r
  have t : topFrom treeTable p w N ⟨H₀ w.params, gs, d, k, os⟩ = some s₁ := by
    unfold topFrom
    dsimp only
    rw [z1, z2, z3, r, hm]
    dsimp only [Option.bind]
    rw [l1]
  unfold openEnds
  rw [e, hm]
  dsimp only [Option.bind]
  rw [t]
  dsimp only [Option.map]
  rw [l2, l3]
theorem chain_of {tb : String → Option Builtin} {p : Program} {w : World} {ann : Option Value} {m₀ n₁ n₂ : Nat} {a b : Shared} {t : SharedT} {stub : Thread} {c : Code} {p0 p1 : Pos} {body : List Stmt} {env : Env}
    (hc : c = .body body env) (h0 : topGo tb p w m₀ ann n₁ a stub = some (b, ⟨denote tb c, c, p0, [topFrame p0]⟩)) (hb : t.abs = b)
    (hbl : segRun tb p w m₀ ann 1 1 b (blockOf body env c p0 [topFrame p0]) = some (.next, b, c, p0)) {t' : SharedT}
    (hr : segRunT tb p w m₀ ann 1 n₂ t (piecesOf body env c p0 [topFrame p0]) = some (.next, t', c, p1))
    (hf : topRun tb p w m₀ ann 2 t'.abs (restOf [] env c p1 [topFrame p0]) = some t'.abs) :
    topRun tb p w m₀ ann (n₁ + (1 + (n₂ + 2))) a stub = some t'.abs := by
  subst hc hb
  refine go_top h0 (piece_block hbl ?_)
  have := piece_app (rest := []) (segRun_of hr) hf
  rw [List.append_nil] at this
  exact this
theorem fin_of {tb : String → Option Builtin} {p : Program} {w : World} {ann : Option Value} {m₀ : Nat} {s : Shared} {env : Env} {c : Code} {p0 p1 : Pos} (hs : stepOk m₀ ann ⟨doneF .next, c, p1, [topFrame p0]⟩ = true) :
    topRun tb p w m₀ ann 2 s (restOf [] env c p1 [topFrame p0]) = some s := by
  refine piece_nil ?_
  unfold topRun
  rw [show through ⟨doneF .next, c, p1, [topFrame p0]⟩ = false from rfl, hs]
  rfl
theorem block_ok (w : World) (os : OsState) : segRun treeTable pw w 11 (some (.ref 6)) 1 1 (saL w os) (blockOf body0 env0 cd0 pos0 B0) = some (.next, saL w os, cd0, pos0) := by kernel_rfl!
theorem run_ok (w : World) (os : OsState) : ∃ s₁, topRun treeTable pw w 11 (some (.ref 6)) (12 + (1 + (3422 + 2))) (s0 w os) (topStub pw) = some s₁ ∧ chk w s₁ = (true, openGood qv looseN, Kk.val w) := by
  obtain ⟨⟨f, t, c, q⟩, h1, h2⟩ := Option.map_eq_some_iff.mp (eval_ok w os)
  simp only [Prod.mk.injEq] at h2
  obtain ⟨rfl, rfl, rfl, h2⟩ := h2
  exact ⟨t.abs, chain_of (body := body0) (env := env0) rfl (pre_ok w os) (sa_abs w os) (block_ok w os) h1 (fin_of (by kernel_rfl!)), h2⟩
theorem mods_ok : importedModules pw.main.body = [] := by kernel_rfl!
theorem size_ok (w : World) : ((boot_heap w.params).isNs mainGlobals && (#[] : Array GenState).size == 0, (boot_heap w.params).objs.size, (boot_heap w.params).nsMap mainGlobals "__annotations__") = (true, 11, some (.ref 6)) := by kernel_rfl!
theorem open_ok : opening pw = plainProg pw.main.scope.names := by kernel_rfl!
theorem fence_ok (s : Shared) : fenceModules? pw s = some s := by kernel_rfl!
theorem left : LeftO pw qv looseN (fun _ => true) Kk.obs Kk.val 7000 :=
  left_of (mods := []) mods_ok (boot_open (p := pw) (N := 7000) open_ok (by decide) fence_ok) size_ok run_ok (by decide)
end
end Mine
namespace Mine
noncomputable section
theorem wellSaid_ok : rwL.wellSaid = true := by decide +kernel
end
end Mine
end
section
set_option maxHeartbeats 1000000
namespace Mine
noncomputable section
noncomputable def dLaw : DefRec := match fdef 30 with
  | .FunctionDef n a b _ _ _ sc _ _ p => { name := n, params := a, body := b, scope := sc, pos := p }
  | _ => { name := S "", params := default, body := [], scope := default, pos := default }
theorem def_ok : defOf qv rwL.row.name = some (dLaw, []) := by kernel_rfl!
theorem the_ok : rwL.row.prog.theDef rwL.row.name = some (dLaw.params, dLaw.body, dLaw.scope) := by kernel_rfl!
theorem holds_of_walk (hc : WalkO qv looseN (fun _ _ => True) Kk.says rwL.row.toRowW dLaw [] fun f vs => PySem.call f vs) : rwL.Holds := by
  refine holds_law wellSaid_ok fun said => ?_
  refine holds_open (q := qv) (loose := looseN) (Xt := fun _ => true) (XP := fun _ _ => True) (Yf := Kk.obs) (Ya := Kk.val) (YP := Kk.says) (N := 7000) (d := dLaw) (kwd := []) left Kk.of Kk.keeps (fun _ _ => trivial) (fun _ _ _ _ _ => trivial) def_ok the_ok (by rfl) (fun s e => recFacts_nil rfl) (by rfl) said (by decide +kernel) ⟨rfl, rfl, rfl, rfl, rfl, by decide +kernel⟩ ?hw hc
  w_witness2
end
end Mine
end
section
set_option maxHeartbeats 400000
namespace Mine
noncomputable section

/- values without their tokens; objects without tokens and epochs -/
inductive MV where
  | none | bool (b : Bool) | int (i : Int) | str (s : Str) | bytes (b : List UInt8) | ref (a : Addr) | cst (v : Value)
noncomputable def er : Value → MV
  | .none => .none
  | .bool b => .bool b
  | .int i _ => .int i
  | .str s _ => .str s
  | .bytes b _ => .bytes b.toList
  | .ref a => .ref a
  | v => .cst v
inductive MObj where
  | list (xs : List MV) | tup (xs : List MV) | sd (es : List (Str × MV)) | bd (es : List (List UInt8 × MV)) | inst (C d : Addr) | exc (d : Addr) | raw (o : Obj)
noncomputable abbrev MHeap := Addr → Option MObj
noncomputable def upd (σ : MHeap) (a : Addr) (o : MObj) : MHeap := fun b => if b = a then some o else σ b
theorem upd_self (σ : MHeap) (a : Addr) (o : MObj) : upd σ a o a = some o := if_pos rfl
theorem upd_ne {σ : MHeap} {a b : Addr} {o : MObj} (h : b ≠ a) : upd σ a o b = σ b := if_neg h

noncomputable abbrev er2 {K : Type} (p : K × Value) : K × MV := (p.1, er p.2)
noncomputable def Rep (w : World) : MObj → Obj → Prop
  | .list xs, o => ∃ vs n, o = W.listOf vs n ∧ vs.toList.map er = xs
  | .tup xs, o => ∃ vs n, o = { cls := .type "tuple", data := .seq vs n } ∧ vs.toList.map er = xs
  | .sd es, o => ∃ kvs : List (Str × Value), o.IsDictOf (strKind pw w) kvs ∧ kvs.map er2 = es
  | .bd es, o => ∃ kvs : List (List UInt8 × Value), o.IsDictOf (bytesKind pw w) kvs ∧ kvs.map er2 = es
  | .inst C d, o => o = instObj C d
  | .exc d, o => o.cls = .ref 52 ∧ o.dict = some d ∧ ∃ vs, o.data = .fields vs
  | .raw o', o => o = o'

structure Stat (w : World) (h : Heap) : Prop where
  k : (K w.params).In h
  g : ∃ mg, h.Ns mainGlobals mg
  b : ∃ mb, h.Ns builtinsNs mb ∧ ∀ x : Str, x ≠ "__name__" → mb x = bootBuiltins x
  nl : h.NoLimit
theorem Stat.keeps {w : World} {h h' : Heap} (S : Stat w h) (k : ∀ b o, h.get? b = some o → h'.get? b = some o) : Stat w h' :=
  ⟨S.k.keeps k, let ⟨mg, x⟩ := S.g; ⟨mg, x.keeps k⟩, let ⟨mb, x, y⟩ := S.b; ⟨mb, x.keeps k, y⟩, S.nl.keeps k⟩

structure Cx where
  w : World
  H : Heap
  n : Nat
  A : Around
  frames : List Env
  fr : List (Addr × (Str → Option Value))
  fix : List (Addr × Obj)
  env : Env
noncomputable abbrev Cx.L (c : Cx) : Addr := c.env.locals
noncomputable abbrev Cx.M (c : Cx) : Model := model pw c.w
structure Cx.Ok (c : Cx) : Prop where
  st : Stat c.w c.H
  frames : c.A.frames = some c.frames
  depth : c.A.depth + 10 * c.n ≤ 900
  units : c.A.units + 100 * c.n ≤ 9000
  kind : c.env.scope.kind = .function
  glob : c.env.globals = mainGlobals
  bltn : c.env.builtins = builtinsNs
  fre : ∀ e ∈ c.frames, e.scope.kind = .function ∧ ∃ a, e.frame = some a ∧ (a = c.L ∨ ∃ p ∈ c.fr, p.1 = a)
  lo : c.H.objs.size ≤ c.L
  frl : ∀ p ∈ c.fr, c.H.objs.size ≤ p.1 ∧ p.1 ≠ c.L
  fxl : ∀ p ∈ c.fix, p.1 ≠ c.L ∧ ∀ q ∈ c.fr, q.1 ≠ p.1
noncomputable def Cx.Fun (c : Cx) : Prop := c.env.frame = some c.L ∧ ∃ o, c.frames = c.env :: o

noncomputable abbrev Loc := List (Str × MV)
structure Sim (c : Cx) (loc : Loc) (σ : MHeap) (h : Heap) : Prop where
  keep : ∀ b o, c.H.get? b = some o → h.get? b = some o
  ns : ∃ m, h.Ns c.L m ∧ ∀ p ∈ loc, ∃ u, m p.1 = some u ∧ er u = p.2
  outs : ∀ p ∈ c.fr, h.Ns p.1 p.2
  fx : ∀ p ∈ c.fix, h.get? p.1 = some p.2
  hr : ∀ a o, σ a = some o → c.H.objs.size ≤ a ∧ a ≠ c.L ∧ (∀ p ∈ c.fr, p.1 ≠ a) ∧ (∀ p ∈ c.fix, p.1 ≠ a) ∧ ∃ ob, h.get? a = some ob ∧ Rep c.w o ob

section
variable {c : Cx} {loc : Loc} {σ : MHeap} {h h' : Heap} {a : Addr} {o : MObj} {ob : Obj}
theorem Sim.grow (S : Sim c loc σ h) (k : ∀ b o, h.get? b = some o → h'.get? b = some o) : Sim c loc σ h' :=
  ⟨fun b o e => k b o (S.keep b o e), let ⟨m, x, y⟩ := S.ns; ⟨m, x.keeps k, y⟩, fun p hp => (S.outs p hp).keeps k, fun p hp => k _ _ (S.fx p hp),
    fun a o e => let ⟨x, y, z, z', ob, u, v⟩ := S.hr a o e; ⟨x, y, z, z', ob, k _ _ u, v⟩⟩
theorem Sim.size (C : c.Ok) (S : Sim c loc σ h) : c.H.objs.size < h.objs.size := let ⟨_, x, _⟩ := S.ns; Nat.lt_of_le_of_lt C.lo x.lt
theorem get_none_ge {h : Heap} {a : Addr} (e : h.objs.size ≤ a) : h.get? a = none := by
  cases q : h.get? a with
  | none => rfl
  | some o => exact absurd (Heap.lt_size q) (Nat.not_lt.mpr e)
theorem Sim.fresh (S : Sim c loc σ h) (e : h.objs.size ≤ a) : σ a = none := by
  cases q : σ a with
  | none => rfl
  | some o => obtain ⟨_, _, _, _, ob, u, _⟩ := S.hr a o q; rw [get_none_ge e] at u; cases u
theorem Sim.new (C : c.Ok) (S : Sim c loc σ h) (hn : h.get? a = none) (hH : c.H.objs.size ≤ a) (k : ∀ b o, h.get? b = some o → h'.get? b = some o) (e : h'.get? a = some ob) (r : Rep c.w o ob) : Sim c loc (upd σ a o) h' := by
  have S' := S.grow k
  refine ⟨S'.keep, S'.ns, S'.outs, S'.fx, fun b o' q => ?_⟩
  by_cases hb : b = a
  · subst hb
    rw [upd_self] at q; cases q
    refine ⟨hH, fun z => ?_, fun p hp z => ?_, fun p hp z => ?_, ob, e, r⟩
    · obtain ⟨m, ⟨oL, _, _, x, _⟩, _⟩ := S.ns; rw [← z, hn] at x; cases x
    · obtain ⟨oL, _, _, x, _⟩ := S.outs p hp; rw [z, hn] at x; cases x
    · have x := S.fx p hp; rw [z, hn] at x; cases x
  · rw [upd_ne hb] at q; exact S'.hr b o' q
theorem Sim.push (C : c.Ok) (S : Sim c loc σ h) (hf : ob.isFreed = false) (r : Rep c.w o ob) : Sim c loc (upd σ h.objs.size o) (h.push ob) :=
  S.new C (get_none_ge (Nat.le_refl _)) (Nat.le_of_lt (S.size C)) (fun _ _ e => Heap.get?_push_of_some _ e) (Heap.get?_push_size _ hf) r
theorem Sim.set (S : Sim c loc σ h) (hs : Heap.SameBut a h h') {o₀ : MObj} (h0 : σ a = some o₀) (e : h'.get? a = some ob) (r : Rep c.w o ob) : Sim c loc (upd σ a o) h' := by
  obtain ⟨x0, y0, z0, z1, _⟩ := S.hr a o₀ h0
  refine ⟨fun b o q => (hs.2 b fun z => ?_).trans (S.keep b o q), ?_, fun p hp => (S.outs p hp).sameBut hs (z0 p hp), fun p hp => (hs.2 _ (z1 p hp)).trans (S.fx p hp), fun b o' q => ?_⟩
  · rw [z, get_none_ge x0] at q; cases q
  · obtain ⟨m, x, y⟩ := S.ns; exact ⟨m, x.sameBut hs y0.symm, y⟩
  · by_cases hb : b = a
    · subst hb
      rw [upd_self] at q; cases q
      exact ⟨x0, y0, z0, z1, ob, e, r⟩
    · rw [upd_ne hb] at q
      obtain ⟨x, y, z, z', ob', u, v⟩ := S.hr b o' q
      exact ⟨x, y, z, z', ob', (hs.2 b hb).trans u, v⟩
theorem Sim.st (C : c.Ok) (S : Sim c loc σ h) : Stat c.w h := C.st.keeps S.keep
theorem Sim.notSys (C : c.Ok) (S : Sim c loc σ h) (q : σ a = some o) : (a == sysModules) = false := by
  obtain ⟨x, _⟩ := S.hr a o q
  obtain ⟨mg, g⟩ := C.st.g
  have := g.lt
  have h3 : (3 : Nat) < c.H.objs.size := this
  rw [beq_eq_false_iff_ne]
  intro z
  have : a = 1 := z
  have hx : c.H.objs.size ≤ a := x
  rw [this] at hx
  exact absurd (Nat.lt_of_lt_of_le h3 hx) (by decide)
theorem Sim.weak (S : Sim c loc σ h) {loc' : Loc} (hl : ∀ p ∈ loc', p ∈ loc) : Sim c loc' σ h := ⟨S.keep, let ⟨m, x, y⟩ := S.ns; ⟨m, x, fun p hp => y p (hl p hp)⟩, S.outs, S.fx, S.hr⟩
theorem Sim.sub (S : Sim c loc σ h) {σ' : MHeap} (hl : ∀ a o, σ' a = some o → σ a = some o) : Sim c loc σ' h := ⟨S.keep, S.ns, S.outs, S.fx, fun a o q => S.hr a o (hl a o q)⟩
end

/- names -/
inductive Look : Loc → Str → MV → Prop where
  | head {x : Str} {v : MV} {l : Loc} : Look ((x, v) :: l) x v
  | tail {x : Str} {v : MV} {p : Str × MV} {l : Loc} : Look l x v → Look (p :: l) x v
theorem Look.mem {l : Loc} {x : Str} {v : MV} (k : Look l x v) : (x, v) ∈ l := by
  induction k with
  | head => exact .head _
  | tail _ ih => exact .tail _ ih
inductive Wipe (x : Str) : Loc → Loc → Prop where
  | nil : Wipe x [] []
  | here {v : MV} {l l' : Loc} : Wipe x l l' → Wipe x ((x, v) :: l) l'
  | keep {y : Str} {v : MV} {l l' : Loc} : decide (y = x) = false → Wipe x l l' → Wipe x ((y, v) :: l) ((y, v) :: l')
theorem Wipe.spec {x : Str} {l l' : Loc} (k : Wipe x l l') : ∀ p ∈ l', p ∈ l ∧ p.1 ≠ x := by
  induction k with
  | nil => exact fun p hp => nomatch hp
  | here _ ih => exact fun p hp => ⟨.tail _ (ih p hp).1, (ih p hp).2⟩
  | keep hy _ ih =>
    intro p hp
    rcases List.mem_cons.mp hp with rfl | hp
    · exact ⟨.head _, of_decide_eq_false hy⟩
    · exact ⟨.tail _ (ih p hp).1, (ih p hp).2⟩

/- what is thrown: an exception of the text's own class, its dict in the small heap -/
noncomputable def FreshExc (a ed : Addr) (h : Heap) : Prop := ∃ t sl, h.get? a = some ⟨.ref 52, some ed, .fields #[.ref t, .none, .none, .none, .bool false, .none], sl⟩
noncomputable def TracedExc (fl : Value) (a ed T : Addr) (h : Heap) : Prop := ∃ oe vs oT ts, h.get? a = some oe ∧ oe.cls = .ref 52 ∧ oe.dict = some ed ∧ oe.data = .fields vs ∧ vs[1]? = some (.ref T) ∧ T ≠ a ∧ h.get? T = some oT ∧ oT.data = .fields ts ∧ ts[3]? = some fl
noncomputable def Apart (c : Cx) (σ : MHeap) (a : Addr) : Prop := c.H.objs.size ≤ a ∧ σ a = none ∧ a ≠ c.L ∧ (∀ p ∈ c.fr, p.1 ≠ a) ∧ ∀ p ∈ c.fix, p.1 ≠ a
structure Thrown (c : Cx) (loc : Loc) (σ : MHeap) (told : MV) (a : Addr) (h : Heap) : Prop where
  sim : Sim c loc σ h
  ap : Apart c σ a
  ex : ∃ ed, σ ed = some (.sd [(S "told", told)]) ∧ (FreshExc a ed h ∨ ∃ T, Apart c σ T ∧ TracedExc .none a ed T h)

noncomputable def Exc (c : Cx) (loc : Loc) (X : MV → MHeap → Prop) (s : Shared) (e : Value) (s' : Shared) : Prop :=
  ∃ h' k σ' told a, s' = { s with heap := h', toks := k } ∧ e = .ref a ∧ Thrown c loc σ' told a h' ∧ X told σ'
noncomputable def Ret (c : Cx) (loc : Loc) {α : Type} (Q : α → MHeap → Prop) (s : Shared) (v : α) (s' : Shared) : Prop :=
  ∃ h' k σ', s' = { s with heap := h', toks := k } ∧ Sim c loc σ' h' ∧ Q v σ'
noncomputable def WT (c : Cx) (loc : Loc) (σ : MHeap) {α : Type} (t : Sem α) (Q : α → MHeap → Prop) (X : MV → MHeap → Prop) : Prop :=
  ∀ s, Sim c loc σ s.heap → wpAny c.M c.A t (Ret c loc Q s) (Exc c loc X s) s
noncomputable abbrev WE (c : Cx) (loc : Loc) (σ : MHeap) (t : Sem Value) (Q : MV → MHeap → Prop) (X : MV → MHeap → Prop) : Prop := WT c loc σ t (fun v σ' => Q (er v) σ') X

section
variable {c : Cx} {loc : Loc} {σ : MHeap} {α β : Type} {X X' : MV → MHeap → Prop}
theorem Ret.step {Q : α → MHeap → Prop} {s s₁ : Shared} {v : α} {s' : Shared} (e : ∃ h k, s₁ = { s with heap := h, toks := k }) (r : Ret c loc Q s₁ v s') : Ret c loc Q s v s' := by
  obtain ⟨h, k, rfl⟩ := e
  obtain ⟨h', k', σ', rfl, r⟩ := r
  exact ⟨h', k', σ', rfl, r⟩
theorem Exc.step {s s₁ : Shared} {v : Value} {s' : Shared} (e : ∃ h k, s₁ = { s with heap := h, toks := k }) (r : Exc c loc X s₁ v s') : Exc c loc X s v s' := by
  obtain ⟨h, k, rfl⟩ := e
  obtain ⟨h', k', σ', t, a, rfl, r⟩ := r
  exact ⟨h', k', σ', t, a, rfl, r⟩
theorem Exc.weak {loc' : Loc} {s : Shared} {v : Value} {s' : Shared} (hx : ∀ p ∈ loc', p ∈ loc) (r : Exc c loc X s v s') : Exc c loc' X s v s' := by
  obtain ⟨h', k', σ', t, a, e1, e2, T, x⟩ := r
  exact ⟨h', k', σ', t, a, e1, e2, ⟨T.sim.weak hx, T.ap, T.ex⟩, x⟩
theorem WT.mono {t : Sem α} {Q Q' : α → MHeap → Prop} (h : WT c loc σ t Q X) (hQ : ∀ v σ', Q v σ' → Q' v σ') (hX : ∀ v σ', X v σ' → X' v σ') : WT c loc σ t Q' X' := fun s hs =>
  wpAny_mono (h s hs) (fun _ _ ⟨h', k, σ', e, S, q⟩ => ⟨h', k, σ', e, S, hQ _ _ q⟩) fun _ _ ⟨h', k, σ', t, a, e1, e2, T, x⟩ => ⟨h', k, σ', t, a, e1, e2, T, hX _ _ x⟩
theorem WT.bind {t : Sem α} {f : α → Sem β} {Q : β → MHeap → Prop} (h : WT c loc σ t (fun v σ' => WT c loc σ' (f v) Q X) X) : WT c loc σ (t >>= f) Q X := fun s hs =>
  wpAny_bind (wpAny_mono (h s hs) (fun v s₁ ⟨h', k, σ', e, S, q⟩ => by
    subst e
    exact wpAny_mono (q _ S) (fun _ _ r => r.step ⟨_, _, rfl⟩) fun _ _ r => r.step ⟨_, _, rfl⟩) fun _ _ x => x)
theorem WT.pure {a : α} {Q : α → MHeap → Prop} (h : Q a σ) : WT c loc σ (pure a) Q X := fun s hs => wpAny_pure ⟨s.heap, s.toks, σ, rfl, hs, h⟩
theorem Ret.here {Q : α → MHeap → Prop} {s : Shared} {v : α} (S : Sim c loc σ s.heap) (q : Q v σ) : Ret c loc Q s v s := ⟨s.heap, s.toks, σ, rfl, S, q⟩
theorem Ret.tok {Q : α → MHeap → Prop} {s : Shared} {v : α} {k : Nat} (S : Sim c loc σ s.heap) (q : Q v σ) : Ret c loc Q s v { s with toks := k } := ⟨s.heap, k, σ, rfl, S, q⟩
theorem Ret.at {Q : α → MHeap → Prop} {s : Shared} {v : α} {h' : Heap} {k : Nat} (S : Sim c loc σ h') (q : Q v σ) : Ret c loc Q s v { s with heap := h', toks := k } := ⟨h', k, σ, rfl, S, q⟩
theorem Ret.heap {Q : α → MHeap → Prop} {s : Shared} {v : α} {h' : Heap} (S : Sim c loc σ h') (q : Q v σ) : Ret c loc Q s v { s with heap := h' } := ⟨h', s.toks, σ, rfl, S, q⟩
theorem WT.standAt {pos : Pos} {Q : Unit → MHeap → Prop} (h : Q () σ) : WT c loc σ (standAt pos) Q X := fun _ hs => wpAny_standAt (.here hs h)
theorem WT.holding {vs : List Value} {t : Sem α} {Q : α → MHeap → Prop} (h : WT c loc σ t Q X) : WT c loc σ (holding vs t) Q X := fun s hs => wpAny_holding (h s hs)
theorem WT.rule {tag : String} {Q : Unit → MHeap → Prop} (h : Q () σ) : WT c loc σ (rule tag) Q X := fun _ hs => wpAny_rule (.here hs h)
theorem WT.point {Q : Unit → MHeap → Prop} (h : Q () σ) : WT c loc σ point Q X := fun _ hs => wpAny_point (.here hs h)
end
end
end Mine
end
section
set_option maxHeartbeats 400000
namespace Mine
noncomputable section
noncomputable def Steps (s s' : Shared) : Prop := ∃ h k, s' = { s with heap := h, toks := k }
theorem Steps.rfl {s : Shared} : Steps s s := ⟨s.heap, s.toks, Eq.refl _⟩
theorem Steps.to {s s' : Shared} (x : Steps s s') (h : Heap) (k : Nat) : Steps s { s' with heap := h, toks := k } := by
  obtain ⟨h', k', q⟩ := x
  subst q
  exact ⟨h, k, Eq.refl _⟩
theorem Steps.trans {s s' s'' : Shared} (x : Steps s s') (y : Steps s' s'') : Steps s s'' := by
  obtain ⟨h, k, q⟩ := y
  subst q
  exact x.to h k

/- inversion of er -/
theorem er_none {v : Value} (h : er v = .none) : v = .none := by cases v <;> simp [er] at h ⊢
theorem er_bool {v : Value} {b : Bool} (h : er v = .bool b) : v = .bool b := by cases v <;> simp [er] at h ⊢; exact h
theorem er_int {v : Value} {i : Int} (h : er v = .int i) : ∃ t, v = .int i t := by cases v <;> simp [er] at h; subst h; exact ⟨_, rfl⟩
theorem er_str {v : Value} {x : Str} (h : er v = .str x) : ∃ t, v = .str x t := by cases v <;> simp [er] at h; subst h; exact ⟨_, rfl⟩
theorem er_bytes {v : Value} {x : List UInt8} (h : er v = .bytes x) : ∃ t, v = .bytes x.toArray t := by cases v <;> simp [er] at h; subst h; exact ⟨_, rfl⟩
theorem er_ref {v : Value} {a : Addr} (h : er v = .ref a) : v = .ref a := by cases v <;> simp [er] at h ⊢; exact h
theorem er_cst {v u : Value} (h : er v = .cst u) : v = u := by cases v <;> simp [er] at h <;> exact h

section
variable {c : Cx} {loc : Loc} {σ : MHeap} {α β : Type} {X : MV → MHeap → Prop}
theorem WT.use {t : Sem α} {Q₁ : α → MHeap → Prop} {R : α → Shared → Prop} {s₀ s : Shared} (h : WT c loc σ t Q₁ X) (st : Steps s₀ s) (S : Sim c loc σ s.heap)
    {lx : Loc} (k : ∀ v σ' s', Steps s₀ s' → Sim c loc σ' s'.heap → Q₁ v σ' → R v s') (hx : ∀ p ∈ lx, p ∈ loc := by first | exact fun _ h => h | exact nofun) : wpAny c.M c.A t R (Exc c lx X s₀) s :=
  wpAny_mono (h s S) (fun v s' ⟨h', k', σ', e, S', q⟩ => by subst e; exact k v σ' _ (st.to _ _) S' q) fun _ _ r => (r.step st).weak hx
theorem WT.run {t : Sem α} {Q : α → MHeap → Prop} {s₀ s : Shared} (h : WT c loc σ t Q X) (st : Steps s₀ s) (S : Sim c loc σ s.heap) {lx : Loc} (hx : ∀ p ∈ lx, p ∈ loc := by first | exact fun _ h => h | exact nofun) : wpAny c.M c.A t (Ret c loc Q s₀) (Exc c lx X s₀) s :=
  wpAny_mono (h s S) (fun _ _ r => r.step st) fun _ _ r => (r.step st).weak hx
theorem Ret.of {Q : α → MHeap → Prop} {s s' : Shared} {v : α} (st : Steps s s') (S : Sim c loc σ s'.heap) (q : Q v σ) : Ret c loc Q s v s' := by
  obtain ⟨h, k, rfl⟩ := st
  exact ⟨h, k, σ, rfl, S, q⟩

variable {Q : MV → MHeap → Prop}
theorem WE.val {t : Sem Value} {v : Value} (e : t = pure v) (h : Q (er v) σ) : WE c loc σ t Q X := by subst e; exact WT.pure h
theorem E_int {i : Int} {k : Nat} {pos : Pos} (h : Q (.int i) σ) : WE c loc σ (eval (.Constant (.int i) k pos) c.env) Q X := fun _ hs => wpAny_Constant_int (.tok hs h)
theorem E_none {k : Nat} {pos : Pos} (h : Q .none σ) : WE c loc σ (eval (.Constant .none k pos) c.env) Q X := fun _ hs => wpAny_Constant_none (.here hs h)
theorem E_bool {b : Bool} {k : Nat} {pos : Pos} (h : Q (.bool b) σ) : WE c loc σ (eval (.Constant (.bool b) k pos) c.env) Q X := fun _ hs => wpAny_Constant_bool (.here hs h)
theorem E_str {x : Str} {k : Nat} {pos : Pos} (h : Q (.str x) σ) : WE c loc σ (eval (.Constant (.str x) k pos) c.env) Q X := fun _ hs => wpAny_Constant_str (.tok hs h)
theorem E_bytes {x : List UInt8} {k : Nat} {pos : Pos} (h : Q (.bytes x) σ) : WE c loc σ (eval (.Constant (.bytes x) k pos) c.env) Q X := fun _ hs => Constant_bytes (.tok hs h)

theorem E_local (C : c.Ok) {x : Str} {pos : Pos} {v : MV} (k : Look loc x v) (h : Q v σ) (hl : c.env.kindOf x = some .local) (hd : (x == ("__debug__" : Str)) = false) :
    WE c loc σ (eval (.Name x pos) c.env) Q X := fun s hs => by
  obtain ⟨m, hm, hv⟩ := hs.ns
  obtain ⟨u, h1, h2⟩ := hv _ k.mem
  exact wpAny_Name (wpAny_loadName_local C.kind hl hm h1 (.here hs (by rw [h2]; exact h))) hd
theorem E_global (C : c.Ok) {x : Str} {pos : Pos} {v : Value} (h : Q (er v) σ) (k : nsIn (K c.w.params) mainGlobals x = some (some v)) (hl : c.env.kindOf x = some .globalImplicit) (hd : (x == ("__debug__" : Str)) = false) :
    WE c loc σ (eval (.Name x pos) c.env) Q X := fun s hs => by
  obtain ⟨mg, hg⟩ := (hs.st C).g
  rw [← C.glob] at hg
  exact Name_function_global C.kind hl (loadGlobal_global hg (mg_of (hs.st C).k (C.glob ▸ hg) k) (.here hs h)) hd
theorem E_builtin (C : c.Ok) {x : Str} {pos : Pos} {v : Value} (h : Q (er v) σ) (k : nsIn (K c.w.params) mainGlobals x = some none) (hv : bootBuiltins x = some v) (hn : x ≠ "__name__") (hl : c.env.kindOf x = some .globalImplicit) (hd : (x == ("__debug__" : Str)) = false) :
    WE c loc σ (eval (.Name x pos) c.env) Q X := fun s hs => by
  obtain ⟨mg, hg⟩ := (hs.st C).g
  obtain ⟨mb, hb, hb'⟩ := (hs.st C).b
  rw [← C.glob] at hg
  rw [← C.bltn] at hb
  exact Name_function_global C.kind hl (loadGlobal_builtin hg (mg_none_of (hs.st C).k (C.glob ▸ hg) k) hb ((hb' x hn).trans hv) (.here hs h)) hd

/- an operation of two values -/
noncomputable def Op2 (c : Cx) (loc : Loc) (σ : MHeap) (f : Value → Value → Sem Value) (a b : MV) (Q : MV → MHeap → Prop) (X : MV → MHeap → Prop) : Prop := ∀ u v, er u = a → er v = b → WE c loc σ (f u v) Q X
noncomputable def Op1 (c : Cx) (loc : Loc) (σ : MHeap) {α : Type} (f : Value → Sem α) (a : MV) (Q : α → MHeap → Prop) (X : MV → MHeap → Prop) : Prop := ∀ u, er u = a → WT c loc σ (f u) Q X
theorem E_binop {l r : Expr} {op : Operator} {pos : Pos} (h : WE c loc σ (eval l c.env) (fun a σ₁ => WE c loc σ₁ (eval r c.env) (fun b σ₂ => Op2 c loc σ₂ (binaryOp op) a b Q X) X) X) :
    WE c loc σ (eval (.BinOp l op r pos) c.env) Q X := fun s hs =>
  wpAny_BinOp (h.use .rfl hs fun u σ₁ s₁ st₁ S₁ h₁ => h₁.use st₁ S₁ fun v σ₂ s₂ st₂ S₂ h₂ => (h₂ u v rfl rfl).run st₂ S₂)
theorem E_compare {l r : Expr} {op : CmpOp} {pos : Pos} (h : WE c loc σ (eval l c.env) (fun a σ₁ => WE c loc σ₁ (eval r c.env) (fun b σ₂ => Op2 c loc σ₂ (compareOp op) a b Q X) X) X) (hm : behindInMarks op r = false) :
    WE c loc σ (eval (.Compare l [op] [r] pos) c.env) Q X := fun s hs =>
  wpAny_Compare1 (h.use .rfl hs fun u σ₁ s₁ st₁ S₁ h₁ => h₁.use st₁ S₁ fun v σ₂ s₂ st₂ S₂ h₂ => (h₂ u v rfl rfl).run st₂ S₂) hm

/- tests -/
noncomputable abbrev WB (c : Cx) (loc : Loc) (σ : MHeap) (e : Expr) (Q : Bool → MHeap → Prop) (X : MV → MHeap → Prop) : Prop := WT c loc σ (isTrue e c.env (eval e c.env)) Q X
variable {B : Bool → MHeap → Prop}
theorem B_compare {l r : Expr} {op : CmpOp} {pos : Pos} (h : WE c loc σ (eval l c.env) (fun a σ₁ => WE c loc σ₁ (eval r c.env) (fun b σ₂ => Op2 c loc σ₂ (compareOp op) a b (fun z σ₃ => Op1 c loc σ₃ truthy z B X) X) X) X) (hm : behindInMarks op r = false) :
    WB c loc σ (.Compare l [op] [r] pos) B X := fun s hs =>
  wpAny_isTrue_Compare1 (h.use .rfl hs fun u σ₁ s₁ st₁ S₁ h₁ => h₁.use st₁ S₁ fun v σ₂ s₂ st₂ S₂ h₂ => (h₂ u v rfl rfl).use st₂ S₂ fun z σ₃ s₃ st₃ S₃ h₃ => (h₃ z rfl).run st₃ S₃) hm
theorem B_value {e : Expr} (h : WE c loc σ (eval e c.env) (fun v σ₁ => Op1 c loc σ₁ truthy v B X) X) (he : isTrue e c.env (eval e c.env) = (do let v ← eval e c.env; standAt e.pos; PySem.holding [v] (truthy v))) : WB c loc σ e B X := fun s hs =>
  wpAny_isTrue_value (h.use .rfl hs fun v σ₁ s₁ st₁ S₁ h₁ => (h₁ v rfl).run st₁ S₁) he
theorem B_not {x : Expr} {pos : Pos} (h : WB c loc σ x (fun b σ₁ => B (!b) σ₁) X) : WB c loc σ (.UnaryOp .Not x pos) B X := fun s hs =>
  wpAny_isTrue_Not (h.use .rfl hs fun b σ₁ s₁ st₁ S₁ h₁ => .of st₁ S₁ h₁)
noncomputable abbrev WAll (c : Cx) (loc : Loc) (σ : MHeap) (op : BoolOp) (es : List Expr) (Q : Bool → MHeap → Prop) (X : MV → MHeap → Prop) : Prop := WT c loc σ (allTrue op es c.env) Q X
theorem B_boolop {op : BoolOp} {es : List Expr} {pos : Pos} (h : WAll c loc σ op es B X) : WB c loc σ (.BoolOp op es pos) B X := fun s hs => wpAny_isTrue_BoolOp (h s hs)
theorem And_nil (h : B true σ) : WAll c loc σ .And [] B X := fun s hs => wpAny_allTrue_And_nil (.here hs h)
theorem Or_nil (h : B false σ) : WAll c loc σ .Or [] B X := fun s hs => wpAny_allTrue_Or_nil (.here hs h)
theorem And_cons {x : Expr} {r : List Expr} (h : WB c loc σ x (fun b σ₁ => if b = true then WAll c loc σ₁ .And r B X else B false σ₁) X) : WAll c loc σ .And (x :: r) B X := fun s hs =>
  wpAny_allTrue_And_cons (h.use .rfl hs fun b σ₁ s₁ st₁ S₁ h₁ => by cases b <;> simp at h₁ ⊢ <;> first | exact h₁.run st₁ S₁ | exact .of st₁ S₁ h₁)
theorem Or_cons {x : Expr} {r : List Expr} (h : WB c loc σ x (fun b σ₁ => if b = true then B true σ₁ else WAll c loc σ₁ .Or r B X) X) : WAll c loc σ .Or (x :: r) B X := fun s hs =>
  wpAny_allTrue_Or_cons (h.use .rfl hs fun b σ₁ s₁ st₁ S₁ h₁ => by cases b <;> simp at h₁ ⊢ <;> first | exact h₁.run st₁ S₁ | exact .of st₁ S₁ h₁)
theorem E_ifexp {t b o : Expr} {pos : Pos} (h : WB c loc σ t (fun z σ₁ => if z = true then WE c loc σ₁ (eval b c.env) Q X else WE c loc σ₁ (eval o c.env) Q X) X) : WE c loc σ (eval (.IfExp t b o pos) c.env) Q X := fun s hs =>
  wpAny_IfExp (h.use .rfl hs fun b σ₁ s₁ st₁ S₁ h₁ => by cases b <;> simp at h₁ ⊢ <;> exact h₁.run st₁ S₁)
theorem E_unary {op : UnaryOp} {x : Expr} {pos : Pos} (h : WE c loc σ (eval x c.env) (fun v σ₁ => Op1 c loc σ₁ (unaryOp op) v (fun v σ => Q (er v) σ) X) X) : WE c loc σ (eval (.UnaryOp op x pos) c.env) Q X := fun s hs =>
  wpAny_UnaryOp (h.use .rfl hs fun v σ₁ s₁ st₁ S₁ h₁ => (h₁ v rfl).run st₁ S₁)

/- operations on ints, bytes -/
theorem o_add {a b : Int} (h : Q (.int (a + b)) σ) : Op2 c loc σ (binaryOp .Add) (.int a) (.int b) Q X := fun u v hu hv => by
  obtain ⟨t, rfl⟩ := er_int hu; obtain ⟨t', rfl⟩ := er_int hv
  exact fun s hs => add_int (.tok hs h)
theorem o_sub {a b : Int} (h : Q (.int (a - b)) σ) : Op2 c loc σ (binaryOp .Sub) (.int a) (.int b) Q X := fun u v hu hv => by
  obtain ⟨t, rfl⟩ := er_int hu; obtain ⟨t', rfl⟩ := er_int hv
  exact fun s hs => sub_int (.tok hs h)
theorem o_mul {a b : Int} (h : Q (.int (a * b)) σ) (hm : IntMulOk a b) : Op2 c loc σ (binaryOp .Mult) (.int a) (.int b) Q X := fun u v hu hv => by
  obtain ⟨t, rfl⟩ := er_int hu; obtain ⟨t', rfl⟩ := er_int hv
  exact fun s hs => mul_int (.tok hs h) hm
theorem o_mod {a b : Int} (hb : b ≠ 0) (h : Q (.int (a.fmod b)) σ) : Op2 c loc σ (binaryOp .Mod) (.int a) (.int b) Q X := fun u v hu hv => by
  obtain ⟨t, rfl⟩ := er_int hu; obtain ⟨t', rfl⟩ := er_int hv
  exact fun s hs => mod_int hb (.tok hs h)
theorem o_fdiv {a b : Int} (hb : b ≠ 0) (h : Q (.int (a.fdiv b)) σ) (hp : Builtin.divisionGoesByPylong a b = false) : Op2 c loc σ (binaryOp .FloorDiv) (.int a) (.int b) Q X := fun u v hu hv => by
  obtain ⟨t, rfl⟩ := er_int hu; obtain ⟨t', rfl⟩ := er_int hv
  exact fun s hs => floordiv_int hb (.tok hs h) (.inl hp)
theorem o_addb {a b : List UInt8} (hz : a.length + b.length ≤ 16777216) (h : Q (.bytes (a ++ b)) σ) : Op2 c loc σ (binaryOp .Add) (.bytes a) (.bytes b) Q X := fun u v hu hv => by
  obtain ⟨t, rfl⟩ := er_bytes hu; obtain ⟨t', rfl⟩ := er_bytes hv
  exact fun s hs => KBy.add_bytes (by simpa using hz) fun t k => .tok hs (by simpa [er] using h)
theorem o_mulb {a : List UInt8} {n : Int} (ha : a ≠ []) (h0 : -1048576 ≤ n) (h1 : n ≤ 1048576) (hl : a.length ≤ 16) (h : Q (.bytes (List.replicate n.toNat a).flatten) σ) : Op2 c loc σ (binaryOp .Mult) (.bytes a) (.int n) Q X := fun u v hu hv => by
  obtain ⟨t, rfl⟩ := er_bytes hu; obtain ⟨t', rfl⟩ := er_int hv
  exact fun s hs => bytes_mul_any ha h0 h1 hl fun t k => .tok hs (by simpa [er] using h)
theorem o_eqb {a b : List UInt8} (h : Q (.bool (a == b)) σ) : Op2 c loc σ (compareOp .Eq) (.bytes a) (.bytes b) Q X := fun u v hu hv => by
  obtain ⟨t, rfl⟩ := er_bytes hu; obtain ⟨t', rfl⟩ := er_bytes hv
  exact fun s hs => PySem.W.eq_bytes (.here hs (by simpa [er] using h))
theorem o_neb {a b : List UInt8} (h : Q (.bool (a != b)) σ) : Op2 c loc σ (compareOp .NotEq) (.bytes a) (.bytes b) Q X := fun u v hu hv => by
  obtain ⟨t, rfl⟩ := er_bytes hu; obtain ⟨t', rfl⟩ := er_bytes hv
  exact fun s hs => PySem.W.ne_bytes (.here hs (by simpa [er] using h))
theorem o_eqi {a b : Int} (h : Q (.bool (a == b)) σ) : Op2 c loc σ (compareOp .Eq) (.int a) (.int b) Q X := fun u v hu hv => by
  obtain ⟨t, rfl⟩ := er_int hu; obtain ⟨t', rfl⟩ := er_int hv
  exact fun s hs => eq_int (.here hs h)
theorem o_nei {a b : Int} (h : Q (.bool (a != b)) σ) : Op2 c loc σ (compareOp .NotEq) (.int a) (.int b) Q X := fun u v hu hv => by
  obtain ⟨t, rfl⟩ := er_int hu; obtain ⟨t', rfl⟩ := er_int hv
  exact fun s hs => ne_int (.here hs h)
theorem o_lt {a b : Int} (h : Q (.bool (decide (a < b))) σ) : Op2 c loc σ (compareOp .Lt) (.int a) (.int b) Q X := fun u v hu hv => by
  obtain ⟨t, rfl⟩ := er_int hu; obtain ⟨t', rfl⟩ := er_int hv
  exact fun s hs => lt_int (.here hs h)
theorem o_gt {a b : Int} (h : Q (.bool (decide (b < a))) σ) : Op2 c loc σ (compareOp .Gt) (.int a) (.int b) Q X := fun u v hu hv => by
  obtain ⟨t, rfl⟩ := er_int hu; obtain ⟨t', rfl⟩ := er_int hv
  exact fun s hs => gt_int (.here hs h)
theorem o_ge {a b : Int} (h : Q (.bool (decide (b ≤ a))) σ) : Op2 c loc σ (compareOp .GtE) (.int a) (.int b) Q X := fun u v hu hv => by
  obtain ⟨t, rfl⟩ := er_int hu; obtain ⟨t', rfl⟩ := er_int hv
  exact fun s hs => ge_int (.here hs h)
noncomputable def MV.isNone : MV → Bool | .none => true | _ => false
theorem er_isNone (v : Value) : (v == Value.none) = (er v).isNone := by cases v <;> rfl
theorem o_is {a : MV} (h : Q (.bool a.isNone) σ) : Op2 c loc σ (compareOp .Is) a .none Q X := fun u v hu hv => by
  rw [er_none hv]; subst hu
  exact fun s hs => is_none (.here hs (by rw [er_isNone]; exact h))
theorem o_isnot {a : MV} (h : Q (.bool (!a.isNone)) σ) : Op2 c loc σ (compareOp .IsNot) a .none Q X := fun u v hu hv => by
  rw [er_none hv]; subst hu
  exact fun s hs => isNot_none (.here hs (by rw [er_isNone]; exact h))
theorem t_bool {b : Bool} (h : B b σ) : Op1 c loc σ truthy (.bool b) B X := fun u hu => by
  rw [er_bool hu]
  exact fun s hs => wpAny_truthy_bool (.here hs h)
end
end
end Mine
end
section
set_option maxHeartbeats 400000
namespace Mine
noncomputable section
noncomputable def MV.flat : MV → Bool | .cst _ => false | _ => true
theorem handed_of {v : Value} (h : (er v).flat = true) : handedIn v = true := by cases v <;> first | rfl | cases h

section
variable {V : Type} {K' : Type} [DecidableEq K']
noncomputable def getK (es : List (K' × V)) (k : K') : Option V := (es.find? fun p => p.1 = k).map (·.2)
noncomputable def putK (es : List (K' × V)) (k : K') (v : V) : List (K' × V) := if es.any (fun p => p.1 = k) then es.map (fun p => if p.1 = k then (p.1, v) else p) else es ++ [(k, v)]
theorem valueAt_er (kvs : List (K' × Value)) (k : K') : (valueAt kvs k).map er = getK (kvs.map er2) k := by
  unfold valueAt getK
  rw [List.find?_map, Option.map_map, Option.map_map]
  rfl
theorem valueAt_of {kvs : List (K' × Value)} {k : K'} {v : MV} (h : getK (kvs.map er2) k = some v) : ∃ u, valueAt kvs k = some u ∧ er u = v := by
  rw [← valueAt_er] at h
  exact Option.map_eq_some_iff.mp h
theorem stored_er (kvs : List (K' × Value)) (k : K') (v : Value) : (stored kvs k v).map er2 = putK (kvs.map er2) k (er v) := by
  unfold stored putK
  have : (kvs.map er2).any (fun p => decide (p.1 = k)) = kvs.any (fun p => decide (p.1 = k)) := by rw [List.any_map]; rfl
  rw [this]
  split
  · simp only [List.map_map]
    apply List.map_congr_left
    intro p _
    simp only [Function.comp]
    split <;> rfl
  · simp
omit [DecidableEq K'] in
theorem keys_er (kvs : List (K' × Value)) : (kvs.map er2).map (·.1) = kvs.map (·.1) := by simp
theorem getK_mem {es : List (K' × V)} (hn : (es.map (·.1)).Nodup) {k : K'} {v : V} (h : (k, v) ∈ es) : getK es k = some v := by
  unfold getK
  induction es with
  | nil => cases h
  | cons p r ih =>
    rw [List.map_cons, List.nodup_cons] at hn
    rcases List.mem_cons.mp h with rfl | h
    · simp
    · have : p.1 ≠ k := fun z => hn.1 (z ▸ List.mem_map_of_mem (f := (·.1)) h)
      rw [List.find?_cons, decide_eq_false this]
      exact ih hn.2 h
end
inductive PutR (k : Str) (v : MV) : List (Str × MV) → List (Str × MV) → Prop where
  | nil : PutR k v [] [(k, v)]
  | head {u : MV} {l : List (Str × MV)} : PutR k v ((k, u) :: l) ((k, v) :: l)
  | tail {y : Str} {u : MV} {l l' : List (Str × MV)} : decide (y = k) = false → PutR k v l l' → PutR k v ((y, u) :: l) ((y, u) :: l')
theorem putK_notin {k : Str} {v : MV} {l : List (Str × MV)} (h : k ∉ l.map (·.1)) : l.any (fun p => decide (p.1 = k)) = false ∧ l.map (fun p => if p.1 = k then (p.1, v) else p) = l := by
  induction l with
  | nil => exact ⟨rfl, rfl⟩
  | cons p r ih =>
    rw [List.map_cons, List.mem_cons, not_or] at h
    obtain ⟨a, b⟩ := ih h.2
    have hne : ¬ p.1 = k := fun z => h.1 z.symm
    constructor
    · rw [List.any_cons, a, decide_eq_false hne]; rfl
    · rw [List.map_cons, b, if_neg hne]
theorem PutR.eq {k : Str} {v : MV} {l l' : List (Str × MV)} (h : PutR k v l l') (hn : (l.map (·.1)).Nodup) : putK l k v = l' := by
  induction h with
  | nil => rfl
  | @head u l =>
    rw [List.map_cons, List.nodup_cons] at hn
    obtain ⟨_, b⟩ := putK_notin (v := v) hn.1
    unfold putK
    simp [b]
  | @tail y u l l' hy _ ih =>
    rw [List.map_cons, List.nodup_cons] at hn
    have := ih hn.2
    unfold putK at this ⊢
    have hy' : ¬ y = k := of_decide_eq_false hy
    subst this
    cases q : l.any (fun p => decide (p.1 = k)) <;> simp [q, hy']

section
variable {c : Cx} {loc : Loc} {σ : MHeap} {α β : Type} {X : MV → MHeap → Prop} {Q : MV → MHeap → Prop} {B : Bool → MHeap → Prop} {h : Heap}
theorem sd_at {w : World} {ob : Obj} {es : List (Str × MV)} (R : Rep w (.sd es) ob) : ∃ l ep kvs, ob = dictOf l ep ∧ Pairs (strKind pw w) l kvs ∧ kvs.map er2 = es ∧ (es.map (·.1)).Nodup := by
  obtain ⟨kvs, ⟨a, ep, e1, hd, hk, hp, hn⟩, he⟩ := R
  obtain ⟨c0, d0, dt, sl⟩ := ob
  obtain ⟨x1, x2, x3⟩ := e1
  dsimp only at x1 x2 x3 hd
  subst x1 x2 x3 hd
  refine ⟨a.toList, ep, kvs, by simp [dictOf], hp, he, ?_⟩
  rw [← he, keys_er]; exact hn
theorem getL_pairs {w : World} {l : List DictEntry} {kvs : List (Str × Value)} (h : Pairs (strKind pw w) l kvs) (x : Str) : getL x l = some (valueAt kvs x) := by
  have hf := h.find x
  have hr : l.any (·.refKey) = false := by
    clear hf
    induction h with
    | nil => rfl
    | @cons e kv es kvs h1 h2 _ ih =>
      rw [List.any_cons, ih, Bool.or_false]
      obtain ⟨t, ht⟩ := Value.isStrOf_shape h1
      unfold DictEntry.refKey
      rw [ht]
  unfold getL
  have e : (fun e : DictEntry => (strKind pw w).is x e.key) = fun e => e.key.isStr x := funext fun e => (isStr_of x e.key).symm
  rw [e] at hf
  rw [← hf]
  cases l.find? fun e => e.key.isStr x with
  | none => simp only [hr, Option.map_none]; rfl
  | some e => rfl

/- attributes -/
noncomputable def attrOk (K : Frag) (C : Addr) (a : Str) : Bool := plainGet K C a && hasDictIn K C && findIn K (.ref C) a == some none
theorem a_get (C : c.Ok) {x d Cl : Addr} {fs : List (Str × MV)} {a : Str} {v : MV} {b : Bool} (hx : σ x = some (.inst Cl d)) (hd : σ d = some (.sd fs)) (hm : Look fs a v) (hf : v.flat = true) (hc : attrOk (K c.w.params) Cl a = true) (h : Q v σ) :
    Op1 c loc σ (fun u => getAttr u a b) (.ref x) (fun v σ => Q (er v) σ) X := fun u hu s hs => by
  rw [er_ref hu]
  obtain ⟨_, _, _, _, ox, hox, rfl⟩ := hs.hr _ _ hx
  obtain ⟨_, _, _, _, od, hod, R⟩ := hs.hr _ _ hd
  obtain ⟨l, ep, kvs, rfl, hp, he, hn⟩ := sd_at R
  simp only [attrOk, Bool.and_eq_true, beq_iff_eq] at hc
  obtain ⟨⟨h1, h2⟩, h3⟩ := hc
  subst he
  obtain ⟨u, hu1, hu2⟩ := valueAt_of (getK_mem hn hm.mem)
  refine get_value (od := some (dictOf l ep)) (hs.st C).k ⟨hox, rfl, rfl, hod⟩ (plainGet_of h1).1 (findObj_own h2 h3 rfl ((lookIn_dict a l ep).trans ((getL_pairs hp a).trans (congrArg some hu1)))) (handed_of (by rw [hu2]; exact hf)) ?_
  exact .tok hs (by rw [hu2]; exact h)
theorem E_attr {o : Expr} {a : Str} {pos : Pos} (h : WE c loc σ (eval o c.env) (fun v σ₁ => Op1 c loc σ₁ (fun u => getAttr u a true) v (fun v σ => Q (er v) σ) X) X) (hb : attributeBase o a c.env (eval o c.env) = eval o c.env) :
    WE c loc σ (eval (.Attribute o a pos) c.env) Q X := fun s hs =>
  Attribute_any_ (h.use .rfl hs fun v σ₁ s₁ st₁ S₁ h₁ => (h₁ v rfl).run st₁ S₁) (by rw [arm_eval_Attribute, hb])

/- calls -/
noncomputable abbrev WArgs (c : Cx) (loc : Loc) (σ : MHeap) (pos : Pos) (es : List Expr) (Q : List MV → MHeap → Prop) (X : MV → MHeap → Prop) : Prop := WT c loc σ (spliced (backTo pos (starEach es c.env))) (fun vs σ' => Q (vs.map er) σ') X
variable {Qs : List MV → MHeap → Prop}
theorem Args_nil {pos : Pos} (h : Qs [] σ) : WArgs c loc σ pos [] Qs X := fun s hs => wpAny_items_nil (.here hs h)
theorem Args_cons {pos : Pos} {e : Expr} {r : List Expr} (h : WE c loc σ (eval e c.env) (fun v σ₁ => WArgs c loc σ₁ pos r (fun vs σ₂ => Qs (v :: vs) σ₂) X) X) (he : starEach (e :: r) c.env = (false, eval e c.env) :: starEach r c.env) : WArgs c loc σ pos (e :: r) Qs X := fun s hs =>
  wpAny_items_cons (h.use .rfl hs fun v σ₁ s₁ st₁ S₁ h₁ => h₁.use st₁ S₁ fun vs σ₂ s₂ st₂ S₂ h₂ => .of st₂ S₂ h₂) he
noncomputable def CallR (c : Cx) (loc : Loc) (σ : MHeap) (f : MV) (vs : List MV) (Q : MV → MHeap → Prop) (X : MV → MHeap → Prop) : Prop := ∀ u us, er u = f → us.map er = vs → WE c loc σ (call u us) Q X
noncomputable def keepOk (K : Frag) : MV → Bool
  | .cst (.builtin _) => true
  | .cst (.type _) => true
  | .ref a => keepIn K (.ref a)
  | _ => false
theorem keeps_any (C : c.Ok) {f : MV} (hk : keepOk (K c.w.params) f = true) {u : Value} (hu : er u = f) (h : Heap) (S : (K c.w.params).In h) : ∃ k, (k = Keeper.frame ∨ k = Keeper.machine ∨ k = Keeper.boundFrame) ∧ Looks c.M h (keeperOf u) k := by
  subst hu
  cases u with
  | ref a => exact keeps_K (f := .ref a) hk h S
  | type T => exact ⟨.machine, .inr (.inl rfl), Looks.of_pure rfl⟩
  | builtin i => exact ⟨.machine, .inr (.inl rfl), Looks.of_pure rfl⟩
  | _ => cases hk
theorem callWith_W0 (C : c.Ok) {pos : Pos} {f : MV} {first : List MV} (hk : keepOk (K c.w.params) f = true) (h : CallR c loc σ f first Q X)
    {u : Value} {us : List Value} (hu : er u = f) (hus : us.map er = first) : WE c loc σ (callWith pos u us (backTo pos (starEach [] c.env)) []) Q X := fun s hs =>
  callWith_of (P := fun h => (K c.w.params).In h) rfl (keeps_any C hk hu) (evalArgs_nil3 ⟨(hs.st C).k, (h u (us ++ []) hu (by simp [hus])).run .rfl hs⟩)
theorem callWith_W (C : c.Ok) {pos : Pos} {f : MV} {first : List MV} {e : Expr} {r : List Expr} (hk : keepOk (K c.w.params) f = true) (h : WArgs c loc σ pos (e :: r) (fun vs σ₁ => CallR c loc σ₁ f (first ++ vs) Q X) X)
    (hp : (backTo pos (starEach (e :: r) c.env)).any (·.1) = false) (he : starEach (e :: r) c.env = (false, eval e c.env) :: starEach r c.env)
    {u : Value} {us : List Value} (hu : er u = f) (hus : us.map er = first) : WE c loc σ (callWith pos u us (backTo pos (starEach (e :: r) c.env)) []) Q X := fun s hs => by
  refine callWith_of (P := fun h => (K c.w.params).In h) (by rw [hp]; rfl) (keeps_any C hk hu) ?_
  have h' := h.use (R := fun vs s₁ => (K c.w.params).In s₁.heap ∧ wpAny c.M c.A (call u (us ++ vs)) (Ret c loc (fun v σ => Q (er v) σ) s) (Exc c loc X s) s₁) .rfl hs fun vs σ₁ s₁ st₁ S₁ h₁ => ⟨(S₁.st C).k, (h₁ u (us ++ vs) hu (by simp [hus])).run st₁ S₁⟩
  rw [he] at h' ⊢
  exact evalArgs_plain h'
theorem E_call0 (C : c.Ok) {x : Str} {np pos : Pos} (h : WE c loc σ (eval (.Name x np) c.env) (fun f σ₁ => keepOk (K c.w.params) f = true ∧ CallR c loc σ₁ f [] Q X) X) : WE c loc σ (eval (.Call (.Name x np) [] [] pos) c.env) Q X := fun s hs =>
  wpAny_Call_ofName (h.use .rfl hs fun f σ₁ s₁ st₁ S₁ h₁ => (callWith_W0 C h₁.1 h₁.2 rfl rfl).run st₁ S₁)
theorem E_call (C : c.Ok) {x : Str} {np pos : Pos} {e : Expr} {r : List Expr} (h : WE c loc σ (eval (.Name x np) c.env) (fun f σ₁ => keepOk (K c.w.params) f = true ∧ WArgs c loc σ₁ pos (e :: r) (fun vs σ₂ => CallR c loc σ₂ f vs Q X) X) X)
    (hp : (backTo pos (starEach (e :: r) c.env)).any (·.1) = false) (he : starEach (e :: r) c.env = (false, eval e c.env) :: starEach r c.env) : WE c loc σ (eval (.Call (.Name x np) (e :: r) [] pos) c.env) Q X := fun s hs =>
  wpAny_Call_ofName (h.use .rfl hs fun f σ₁ s₁ st₁ S₁ h₁ => (callWith_W (first := []) C h₁.1 h₁.2 hp he rfl rfl).run st₁ S₁)
/- methods -/
noncomputable def MethR (c : Cx) (loc : Loc) (σ : MHeap) (o : MV) (name : Str) (f : MV) (first : List MV) : Prop := ∀ u s, er u = o → Sim c loc σ s.heap → ∀ (pl : Sem Bool) (Q' : Value × List Value → Shared → Prop) (E' : Value → Shared → Prop),
  (∀ fu us, er fu = f → us.map er = first → Q' (fu, us) s) → wpAny c.M c.A (getMethod u name pl) Q' E' s
noncomputable def methOk (K : Frag) (C f : Addr) (a : Str) : Bool := plainGet K C a && findIn K (.ref C) a == some (some (.ref f)) && isFn K (.ref f)
theorem m_inst (C : c.Ok) {x d Cl f : Addr} {fs : List (Str × MV)} {a : Str} (hx : σ x = some (.inst Cl d)) (hd : σ d = some (.sd fs)) (hc : methOk (K c.w.params) Cl f a = true) (hn : (fs.all fun p => !decide (p.1 = a)) = true) : MethR c loc σ (.ref x) a (.ref f) [.ref x] := by
  intro u s hu hs pl Q' E' h
  rw [er_ref hu]
  obtain ⟨_, _, _, _, ox, hox, rfl⟩ := hs.hr _ _ hx
  obtain ⟨_, _, _, _, od, hod, R⟩ := hs.hr _ _ hd
  obtain ⟨l, ep, kvs, rfl, hp, he, hn'⟩ := sd_at R
  simp only [methOk, Bool.and_eq_true, beq_iff_eq] at hc
  obtain ⟨⟨h1, h2⟩, h3⟩ := hc
  have hv : valueAt kvs a = none := by
    unfold valueAt
    rw [List.find?_eq_none.mpr, Option.map_none]
    intro p hp
    have := List.all_eq_true.mp hn (er2 p) (by rw [← he]; exact List.mem_map_of_mem hp)
    simpa using this
  refine method_fn (od := some (dictOf l ep)) (hs.st C).k ⟨hox, rfl, rfl, hod⟩ (plainGet_of h1).1 (plainGet_of h1).2 h2 (beq_iff_eq.mp h3) ?_ (h _ _ rfl rfl)
  show (lookIn a (dictOf l ep)).map _ = _
  rw [lookIn_dict, getL_pairs hp, hv]; rfl
theorem m_builtin {a : Addr} {T id : String} {name : Str} (ht : ∀ h, Sim c loc σ h → ∃ ob, h.get? a = some ob ∧ ob.cls = .type T ∧ ob.dict = none) (pa : PlainAttrs T) (sl : Slot T name id) (hty : typeOf (.builtin id) = pure (.type "method_descriptor")) : MethR c loc σ (.ref a) name (.cst (.builtin id)) [.ref a] := by
  intro u s hu hs pl Q' E' h
  rw [er_ref hu]
  obtain ⟨ob, h1, h2, h3⟩ := ht _ hs
  exact getMethod_builtin ⟨ob, h1, h2⟩ pa sl hty (fun b e => by cases e; exact ⟨ob, h1, h3⟩) (h _ _ rfl rfl)
theorem methodCall_as {o : Expr} {name : Str} {apos pos : Pos} {es : List Expr} (hb : attributeBase o name c.env (eval o c.env) = eval o c.env) (hf : methodCallForm (es.length + 0) (backTo pos (starEach es c.env)) [] = true) (hl : (apos.endLine == pos.line) = true) :
    eval (.Call (.Attribute o name apos) es [] pos) c.env = (do
      let ov ← eval o c.env
      standAt apos.atName
      let (f, first) ← PySem.holding [ov] (getMethod ov name (do return (← importBound o c.env).getD true))
      callWith pos f first (backTo pos (starEach es c.env)) []) := by
  rw [arm_eval_Call, hb]
  unfold methodCall calleeOf methodCallPos
  simp only [List.length_nil]
  have hf' : methodCallForm (es.length + 0) (backTo pos (starEach es c.env)) (backToKw pos (keywordEach [] c.env)) = true := hf
  simp only [hf', hl, Bool.not_true, Bool.false_or, if_true]
  rfl
theorem E_meth0 (C : c.Ok) {o : Expr} {name : Str} {apos pos : Pos} (h : WE c loc σ (eval o c.env) (fun ov σ₁ => ∃ f first, keepOk (K c.w.params) f = true ∧ MethR c loc σ₁ ov name f first ∧ CallR c loc σ₁ f first Q X) X)
    (hb : attributeBase o name c.env (eval o c.env) = eval o c.env) (hl : (apos.endLine == pos.line) = true) : WE c loc σ (eval (.Call (.Attribute o name apos) [] [] pos) c.env) Q X := fun s hs =>
  MethodCall_ (h.use .rfl hs fun ov σ₁ s₁ st₁ S₁ ⟨f, first, h1, h2, h3⟩ => h2 ov s₁ rfl S₁ _ _ _ fun fu us e1 e2 => (callWith_W0 C h1 h3 e1 e2).run st₁ S₁) (methodCall_as hb rfl hl)
theorem E_meth (C : c.Ok) {o : Expr} {name : Str} {apos pos : Pos} {e : Expr} {r : List Expr} (h : WE c loc σ (eval o c.env) (fun ov σ₁ => ∃ f first, keepOk (K c.w.params) f = true ∧ MethR c loc σ₁ ov name f first ∧ WArgs c loc σ₁ pos (e :: r) (fun vs σ₂ => CallR c loc σ₂ f (first ++ vs) Q X) X) X)
    (hb : attributeBase o name c.env (eval o c.env) = eval o c.env) (hf : methodCallForm ((e :: r).length + 0) (backTo pos (starEach (e :: r) c.env)) [] = true) (hl : (apos.endLine == pos.line) = true) (hp : (backTo pos (starEach (e :: r) c.env)).any (·.1) = false) (he : starEach (e :: r) c.env = (false, eval e c.env) :: starEach r c.env) :
    WE c loc σ (eval (.Call (.Attribute o name apos) (e :: r) [] pos) c.env) Q X := fun s hs =>
  MethodCall_ (h.use .rfl hs fun ov σ₁ s₁ st₁ S₁ ⟨f, first, h1, h2, h3⟩ => h2 ov s₁ rfl S₁ _ _ _ fun fu us e1 e2 => (callWith_W C h1 h3 hp he e1 e2).run st₁ S₁) (methodCall_as hb hf hl)
end
end
end Mine
end
section
set_option maxHeartbeats 400000
namespace Mine
noncomputable section
section
variable {c : Cx} {loc : Loc} {σ : MHeap} {α β : Type} {X : MV → MHeap → Prop} {Q : MV → MHeap → Prop} {B : Bool → MHeap → Prop} {h : Heap} {a d : Addr}
theorem lineUp {n : Nat} (h : n ≤ 1000000) : n ≤ sizeLine := Nat.le_trans h (by rw [sizeLine_eq]; decide)
theorem Sim.sdict (S : Sim c loc σ h) {es : List (Str × MV)} (q : σ d = some (.sd es)) : ∃ kvs : List (Str × Value), h.DictOf (strKind pw c.w) d kvs ∧ kvs.map er2 = es := by
  obtain ⟨_, _, _, _, ob, u, kvs, hd, he⟩ := S.hr _ _ q
  exact ⟨kvs, Heap.dictOf_iff.mpr ⟨ob, u, hd⟩, he⟩
theorem Sim.bdict (S : Sim c loc σ h) {es : List (List UInt8 × MV)} (q : σ d = some (.bd es)) : ∃ kvs : List (List UInt8 × Value), h.DictOf (bytesKind pw c.w) d kvs ∧ kvs.map er2 = es := by
  obtain ⟨_, _, _, _, ob, u, kvs, hd, he⟩ := S.hr _ _ q
  exact ⟨kvs, Heap.dictOf_iff.mpr ⟨ob, u, hd⟩, he⟩
theorem Sim.lst (S : Sim c loc σ h) {xs : List MV} (q : σ a = some (.list xs)) : ∃ vs n, h.get? a = some (W.listOf vs n) ∧ vs.toList.map er = xs := by
  obtain ⟨_, _, _, _, ob, u, vs, n, rfl, he⟩ := S.hr _ _ q
  exact ⟨vs, n, u, he⟩
noncomputable def Has (c : Cx) (loc : Loc) (σ : MHeap) (a : Addr) (o : MObj) : Prop := ∀ h, Sim c loc σ h → ∃ ob, h.get? a = some ob ∧ Rep c.w o ob
theorem Has.of {o : MObj} (h : σ a = some o) : Has c loc σ a o := fun _ S => let ⟨_, _, _, _, ob, u, v⟩ := S.hr a o h; ⟨ob, u, v⟩
theorem Has.fix (C : c.Ok) {o : MObj} {ob : Obj} (h : (K c.w.params).lookup a = some ob) (r : Rep c.w o ob) : Has c loc σ a o := fun _ S => ⟨ob, (S.st C).k _ _ h, r⟩
theorem Has.tup {xs : List MV} (T : Has c loc σ a (.tup xs)) (S : Sim c loc σ h) : ∃ vs : Array Value, IsTup h a vs ∧ vs.toList.map er = xs ∧ h.IsTuple a vs := by
  obtain ⟨ob, u, vs, n, rfl, he⟩ := T h S
  exact ⟨vs, ⟨_, u, rfl, n, rfl⟩, he, ⟨_, u, rfl, n, rfl⟩⟩
theorem listAt {w : Heap} {vs : Array Value} {n : Nat} (u : w.get? a = some (W.listOf vs n)) : w.IsList a vs := ⟨_, u, rfl, n, rfl⟩
theorem map_at {vs : Array Value} {xs : List MV} (e : vs.toList.map er = xs) {i : Nat} {v : MV} (k : xs[i]? = some v) : ∃ u, vs[i]? = some u ∧ er u = v := by
  subst e
  rw [List.getElem?_map, Option.map_eq_some_iff] at k
  simpa using k
theorem map_size {vs : Array Value} {xs : List MV} (e : vs.toList.map er = xs) : vs.size = xs.length := by subst e; simp

/- items -/
noncomputable def ItemR (c : Cx) (loc : Loc) (σ : MHeap) (a b : MV) (Q : MV → MHeap → Prop) (X : MV → MHeap → Prop) : Prop := ∀ u v, er u = a → er v = b → ∀ s, Sim c loc σ s.heap →
  (∃ T id, s.TypeIs u T ∧ typeLookup (.type T) "__getitem__" = pure (some (.builtin id))) ∧ wpAny c.M c.A (getItem u v) (Ret c loc (fun v σ => Q (er v) σ) s) (Exc c loc X s) s
theorem sub_ops (slice : Expr) (o i : Value) : ∃ ops, subscripted slice false o i = operate ops (getItem o i) := by
  cases slice
  case Slice a b st p => cases st <;> exact ⟨_, rfl⟩
  all_goals exact ⟨_, rfl⟩
theorem E_sub {value slice : Expr} {pos : Pos} (h : WE c loc σ (eval value c.env) (fun a σ₁ => WE c loc σ₁ (eval slice c.env) (fun b σ₂ => ItemR c loc σ₂ a b Q X) X) X) : WE c loc σ (eval (.Subscript value slice pos) c.env) Q X := fun s hs =>
  Subscript_ (h.use .rfl hs fun u σ₁ s₁ st₁ S₁ h₁ => h₁.use st₁ S₁ fun v σ₂ s₂ st₂ S₂ h₂ => by
    obtain ⟨⟨T, id, h1, h2⟩, h3⟩ := h₂ u v rfl rfl s₂ S₂
    obtain ⟨ops, h4⟩ := sub_ops slice u v
    exact tail_any h1 h2 (wpAny_mono h3 (fun _ _ r => r.step st₂) fun _ _ r => r.step st₂) h4)
theorem i_sd {es : List (Str × MV)} {x : Str} {v : MV} (q : σ d = some (.sd es)) (k : getK es x = some v) (h : Q v σ) : ItemR c loc σ (.ref d) (.str x) Q X := fun u y hu hy s hs => by
  obtain ⟨kvs, hd, rfl⟩ := hs.sdict q
  rw [er_ref hu]
  obtain ⟨t, rfl⟩ := er_str hy
  obtain ⟨u, k1, k2⟩ := valueAt_of k
  exact ⟨⟨_, _, hd.mapOf.typeIs, slot_dict_getitem.lookup⟩, wpAny_getItem_of (strKind_is _ _ _ _) hd.mapOf k1 (.tok hs (by rw [k2]; exact h))⟩
theorem isB (x : List UInt8) (t : Tok) {w : World} : (bytesKind pw w).is x (.bytes x.toArray t) = true := by simp [bytesKind, isBytes]
theorem i_bd {es : List (List UInt8 × MV)} {x : List UInt8} {v : MV} (q : σ d = some (.bd es)) (k : getK es x = some v) (h : Q v σ) : ItemR c loc σ (.ref d) (.bytes x) Q X := fun u y hu hy s hs => by
  obtain ⟨kvs, hd, rfl⟩ := hs.bdict q
  rw [er_ref hu]
  obtain ⟨t, rfl⟩ := er_bytes hy
  obtain ⟨u, k1, k2⟩ := valueAt_of k
  exact ⟨⟨_, _, hd.mapOf.typeIs, slot_dict_getitem.lookup⟩, wpAny_getItem_of (isB _ _) hd.mapOf k1 (.tok hs (by rw [k2]; exact h))⟩
theorem i_list {xs : List MV} {k : Int} {v : MV} (q : σ a = some (.list xs)) (h0 : 0 ≤ k) (hk : k < 1000000) (hx : xs[k.toNat]? = some v) (h : Q v σ) : ItemR c loc σ (.ref a) (.int k) Q X := fun u y hu hy s hs => by
  obtain ⟨vs, n, g, e⟩ := hs.lst q
  rw [er_ref hu]
  obtain ⟨t, rfl⟩ := er_int hy
  obtain ⟨u, k1, k2⟩ := map_at e hx
  exact ⟨⟨_, _, (listAt g).typeIs, slot_list_getitem.lookup⟩, wpAny_getItem_list (listAt g) h0 (by omega) k1 (.here hs (by rw [k2]; exact h))⟩
theorem i_tup {xs : List MV} {k : Int} {v : MV} (T : Has c loc σ a (.tup xs)) (h0 : 0 ≤ k) (hk : k < 1000000) (hx : xs[k.toNat]? = some v) (h : Q v σ) : ItemR c loc σ (.ref a) (.int k) Q X := fun u y hu hy s hs => by
  obtain ⟨vs, g, e, _⟩ := T.tup hs
  rw [er_ref hu]
  obtain ⟨t, rfl⟩ := er_int hy
  obtain ⟨u, k1, k2⟩ := map_at e hx
  have hl : k.toNat < vs.size := (Array.getElem?_eq_some_iff.mp k1).1
  refine ⟨⟨_, _, g.typeIs, slot_tuple_getitem.lookup⟩, getItem_tuple g (by omega) (by omega) (j := k.toNat) ?_ k1 (.here hs (by rw [k2]; exact h))⟩
  have hn : ¬ k < 0 := by omega
  have h1 : k < vs.size := by omega
  simp [seqIndex?, hn, h0, h1]
theorem i_bytes {x : List UInt8} {k : Int} (h0 : 0 ≤ k) (h1 : k < x.length) (hz : x.length ≤ 1000000) (h : Q (.int (x.getD k.toNat 0).toNat) σ) : ItemR c loc σ (.bytes x) (.int k) Q X := fun u y hu hy s hs => by
  obtain ⟨t, rfl⟩ := er_bytes hu
  obtain ⟨t', rfl⟩ := er_int hy
  exact ⟨⟨_, _, typeIs_bytes _ _ _, FB.slot_bytes_getitem.lookup⟩, PySem.W.getItem_bytes (by omega) h0 h1 (.tok hs h)⟩

/- slices -/
noncomputable def cut {γ : Type} (lo hi : Option Int) (x : List γ) : List γ := (x.drop (lo.elim 0 (clipAt x.length))).take (hi.elim x.length (clipAt x.length) - lo.elim 0 (clipAt x.length))
noncomputable def SliceR (c : Cx) (loc : Loc) (σ : MHeap) (a : MV) (lo hi : Option Int) (Q : MV → MHeap → Prop) (X : MV → MHeap → Prop) : Prop := ∀ u vl vu, er u = a → IsPart vl lo → IsPart vu hi → ∀ s, Sim c loc σ s.heap →
  ∀ sl, s.heap.IsSliceOf sl vl vu .none → (∃ T id, s.TypeIs u T ∧ typeLookup (.type T) "__getitem__" = pure (some (.builtin id))) ∧ wpAny c.M c.A (getItem u (.ref sl)) (Ret c loc (fun v σ => Q (er v) σ) s) (Exc c loc X s) s
noncomputable def WPart (c : Cx) (loc : Loc) (σ : MHeap) (o : Option Expr) (Q : Option Int → MHeap → Prop) (X : MV → MHeap → Prop) : Prop := WT c loc σ (evalPart o c.env) (fun v σ' => ∃ lo, IsPart v lo ∧ Q lo σ') X
theorem P_none {Q : Option Int → MHeap → Prop} (h : Q none σ) : WPart c loc σ none Q X := fun s hs => wpAny_pure (.here hs ⟨_, .none, h⟩)
theorem P_some {e : Expr} {Q : Option Int → MHeap → Prop} (h : WE c loc σ (eval e c.env) (fun v σ' => ∃ i, v = .int i ∧ Q (some i) σ') X) : WPart c loc σ (some e) Q X := fun s hs =>
  h.use .rfl hs fun u σ₁ s₁ st₁ S₁ ⟨i, e, q⟩ => by obtain ⟨t, rfl⟩ := er_int e; exact .of st₁ S₁ ⟨_, .int i t, q⟩
theorem E_slice {value : Expr} {lower upper : Option Expr} {p pos : Pos} (h : WE c loc σ (eval value c.env) (fun a σ₁ => WPart c loc σ₁ lower (fun lo σ₂ => WPart c loc σ₂ upper (fun hi σ₃ => SliceR c loc σ₃ a lo hi Q X) X) X) X) :
    WE c loc σ (eval (.Subscript value (.Slice lower upper none p) pos) c.env) Q X := fun s hs =>
  Subscript_ (h.use .rfl hs fun u σ₁ s₁ st₁ S₁ h₁ => wpAny_Slice (h₁.use st₁ S₁ fun vl σ₂ s₂ st₂ S₂ ⟨lo, hlo, h₂⟩ => h₂.use st₂ S₂ fun vu σ₃ s₃ st₃ S₃ ⟨hi, hhi, h₃⟩ => wpAny_pure (by
    obtain ⟨⟨T, id, h1, h2⟩, h3⟩ := h₃ u vl vu rfl hlo hhi { s₃ with heap := s₃.heap.push { cls := .type "slice", data := .fields #[vl, vu, .none] } } (S₃.grow fun _ _ e => Heap.get?_push_of_some _ e) _ (Heap.IsSliceOf.new _ _ _ _)
    obtain ⟨ops, h4⟩ := sub_ops (.Slice lower upper none p) u (.ref s₃.heap.objs.size)
    have st₄ := st₃.to (s₃.heap.push { cls := .type "slice", data := .fields #[vl, vu, .none] }) s₃.toks
    exact tail_any h1 h2 (wpAny_mono h3 (fun _ _ r => r.step st₄) fun _ _ r => r.step st₄) h4)))
theorem s_bytes {x : List UInt8} {lo hi : Option Int} (hz : x.length ≤ 1000000) (h : Q (.bytes (cut lo hi x)) σ) : SliceR c loc σ (.bytes x) lo hi Q X := fun u vl vu hu hl hh s hs sl hsl => by
  obtain ⟨t, rfl⟩ := er_bytes hu
  have e : (KBy.picked x.toArray lo hi).toList = cut lo hi x := by rw [KBc.picked_eq]; simp [cut]
  refine ⟨⟨_, _, typeIs_bytes _ _ _, FB.slot_bytes_getitem.lookup⟩, getItem_meets (typeIs_bytes _ _ _) (by decide) FB.slot_bytes_getitem FB.entry_bytes_getitem (FB.args_bytes_getitem_2 _ _) (KBc.meets_slice2 x.toArray t sl hl hh)
    ⟨hsl, lineUp (Nat.le_trans (KBc.size_picked_le _ _ _) (by simpa using hz)), fun t' k => .tok hs (by simp only [er]; rw [e]; exact h)⟩⟩
end
end
end Mine
end
section
set_option maxHeartbeats 400000
namespace Mine
noncomputable section
section
variable {c : Cx} {loc : Loc} {σ : MHeap} {α β : Type} {X : MV → MHeap → Prop} {Q : MV → MHeap → Prop} {B : Bool → MHeap → Prop} {h : Heap} {a d : Addr}
theorem sliceApplied_upto {M : Model} {A : Around} {E : Value → Shared → Prop} {s : Shared} {sl : Addr} {b n : Nat} {u : Tok} {Q : Int × Int × Nat → Shared → Prop} (hs : s.heap.IsSliceOf sl .none (.int b u) .none) (hb : b ≤ n) (h : Q (0, 1, b) s) :
    wpAny (model pw c.w) A (Builtin.Slice.sliceApplied (.ref sl) (pure (n : Int))) Q E s := by
  obtain ⟨os, hos, hcs, hds⟩ := id hs
  unfold Builtin.Slice.sliceApplied Builtin.Slice.sliceFields
  refine wpAny_bind (wpAny_bind (wpAny_field hos hds (x := .none) rfl (wpAny_bind (wpAny_field hos hds (x := .int b u) rfl (wpAny_bind (wpAny_field hos hds (x := .none) rfl (wpAny_pure ?_)))))))
  refine wpAny_bind (slicePart_none ?_)
  show wpAny _ _ (if ((1 : Int) == 0) = true then _ else _) _ _ s
  rw [if_neg (by decide)]
  refine wpAny_bind (slicePart_none (wpAny_bind (slicePart_int (wpAny_bind (wpAny_pure ?_)))))
  have e1 : Builtin.Slice.sliceAdjust none (some (b : Int)) 1 (n : Int) = (0, (b : Int)) := by
    unfold Builtin.Slice.sliceAdjust
    have h1 : ¬ ((1 : Int) < 0) := by omega
    have h2 : ¬ ((b : Int) < 0) := by omega
    simp only [h1, h2, if_false]
    congr 1
    omega
  have e2 : Builtin.Slice.slicePlaces 0 (b : Int) 1 = b := by
    unfold Builtin.Slice.slicePlaces
    have h1 : (1 : Int) > 0 := by omega
    simp only [h1, if_true, Int.ediv_one]
    split <;> omega
  show wpAny _ _ (match Builtin.Slice.sliceAdjust none (some (b : Int)) 1 (n : Int) with | (lo, hi) => pure (lo, (1 : Int), Builtin.Slice.slicePlaces lo hi 1)) _ _ s
  rw [e1]
  show wpAny _ _ (pure ((0 : Int), (1 : Int), Builtin.Slice.slicePlaces 0 (b : Int) 1)) _ _ s
  rw [e2]
  exact wpAny_pure h
theorem pick_upto (xs : Array Value) (b : Nat) : ((List.range b).filterMap fun (k : Nat) => xs[((0 : Int) + (k : Int) * 1).toNat]?).toArray = (xs.toList.take b).toArray := by
  have e : (fun (k : Nat) => xs[((0 : Int) + (k : Int) * 1).toNat]?) = fun k => xs[0 + k]? := by
    funext k
    have : ((0 : Int) + (k : Int) * 1).toNat = 0 + k := by omega
    rw [this]
  rw [e]
  have := pick_run xs 0 b
  rw [List.filterMap_map] at this
  have e2 : ((fun x => xs[x]?) ∘ fun x => 0 + x) = fun k => xs[0 + k]? := rfl
  rw [e2] at this
  rw [this, List.drop_zero]
theorem getItem_tuple_upto {A : Around} {E : Value → Shared → Prop} {s : Shared} {t sl : Addr} {items : Array Value} {b : Nat} {u : Tok} {Q : Value → Shared → Prop} (ht : IsTup s.heap t items) (hs : s.heap.IsSliceOf sl .none (.int b u) .none) (hb : b < items.size)
    (h : Q (.ref s.heap.objs.size) { s with heap := s.heap.push { cls := .type "tuple", data := .seq (items.toList.take b).toArray } })
    (hsz : items.size ≤ sizeLine) : wpAny (model pw c.w) A (getItem (.ref t) (.ref sl)) Q E s := by
  have hdrop : sizeOk (.seq (items.toList.take b).toArray) := by
    show (items.toList.take b).toArray.size ≤ sizeLine
    rw [List.size_toArray, List.length_take, Array.length_toList]
    omega
  obtain ⟨os, hos, hcs, hds⟩ := id hs
  have hTs : s.TypeIs (.ref sl) "slice" := ⟨os, hos, hcs⟩
  unfold getItem
  try with_reducible refine wpAny_holding ?_
  first | refine wpAny_bind (wpAny_pure ?_) | skip
  refine wpAny_bind (wpAny_sequenceKey ht.typeIs (by decide) ?_)
  refine wpAny_bind (wpAny_callSpecial?_slot (name := Str.ofString "__getitem__") ht.typeIs slot_tuple_getitem
    (wpAny_call_entry slot_tuple_getitem ht.typeIs entry_tuple_getitem ?_ (args_tuple_getitem _ _)))
  show wpAny _ _ (Builtin.Tuple.tupleItemsOf (.ref t) >>= _) _ _ s
  refine wpAny_bind (tupleItemsOf_ ht ?_)
  refine wpAny_bind (wpAny_typeOf hTs ?_)
  rw [if_pos (by decide)]
  refine wpAny_bind (sliceApplied_upto (M := model pw c.w) hs (Nat.le_of_lt hb) ?_)
  have hno : ¬ (((0 : Int) == 0 && (1 : Int) == 1 && b == items.size) = true) := by
    have : (b == items.size) = false := by rw [beq_eq_false_iff_ne]; omega
    rw [this]; simp
  show wpAny _ _ (if ((0 : Int) == 0 && (1 : Int) == 1 && b == items.size) = true then _ else _) _ _ s
  rw [if_neg hno, pick_upto items b]
  first
    | exact wpAny_bind (m := Builtin.Tuple.tupleExact _) (wpAny_newObj_type (wpAny_pure ⟨_, rfl, wpAny_pure h⟩) hdrop)
    | exact wpAny_bind (m := Builtin.Tuple.tupleExact _) (wpAny_newObj_type (wpAny_bind (wpAny_pure (wpAny_pure ⟨_, rfl, wpAny_pure h⟩))) hdrop)
    | exact wpAny_bind (wpAny_bind (m := Builtin.Tuple.tupleExact _) (wpAny_newObj_type (wpAny_pure (wpAny_pure ⟨_, rfl, wpAny_pure h⟩)) hdrop))
    | exact wpAny_bind (wpAny_bind (m := Builtin.Tuple.tupleExact _) (wpAny_newObj_type (wpAny_pure ⟨_, rfl, wpAny_pure h⟩) hdrop))
theorem map_take {vs : Array Value} {xs : List MV} (e : vs.toList.map er = xs) (b : Nat) : (vs.toList.take b).map er = xs.take b := by rw [← e, List.map_take]
noncomputable def Made (σ : MHeap) (o : MObj) (Q : MV → MHeap → Prop) : Prop := ∀ r, σ r = none → Q (.ref r) (upd σ r o)
theorem s_tup (C : c.Ok) {xs : List MV} {b : Nat} (T : Has c loc σ a (.tup xs)) (hb : b < xs.length) (hz : xs.length ≤ 1000000) (h : Made σ (.tup (xs.take b)) Q) : SliceR c loc σ (.ref a) none (some b) Q X := fun u vl vu hu hl hh s hs sl hsl => by
  obtain ⟨vs, g, e, _⟩ := T.tup hs
  rw [er_ref hu]
  cases hl; cases hh with | int _ t =>
  have hsz := map_size e
  refine ⟨⟨_, _, g.typeIs, slot_tuple_getitem.lookup⟩, getItem_tuple_upto g hsl (by omega) (.heap (hs.push (o := .tup (xs.take b)) C rfl ⟨_, _, rfl, map_take e b⟩) (h _ (hs.fresh (Nat.le_refl _)))) (lineUp (by omega))⟩
theorem s_list (C : c.Ok) {xs : List MV} {b : Nat} (q : σ a = some (.list xs)) (hz : xs.length ≤ 1000000) (h : Made σ (.list (xs.take b)) Q) : SliceR c loc σ (.ref a) none (some b) Q X := fun u vl vu hu hl hh s hs sl hsl => by
  obtain ⟨vs, n, g, e⟩ := hs.lst q
  rw [er_ref hu]
  cases hl; cases hh with | int _ t =>
  have hsz := map_size e
  refine ⟨⟨_, _, (listAt g).typeIs, slot_list_getitem.lookup⟩, wpAny_getItem_list_slice (listAt g) hsl .none (.int b t) .none (fun e => nomatch e) (.heap (hs.push (o := .list (xs.take b)) C rfl ⟨_, _, rfl, ?_⟩) (h _ (hs.fresh (Nat.le_refl _)))) (lineUp (by omega))⟩
  rw [slicePick_upto', map_take e b]

/- membership -/
theorem o_in_bd (C : c.Ok) {es : List (List UInt8 × MV)} {x : List UInt8} (q : σ d = some (.bd es)) (h : Q (.bool (getK es x).isSome) σ) : Op2 c loc σ (compareOp .In) (.bytes x) (.ref d) Q X := fun u v hu hv s hs => by
  obtain ⟨t, rfl⟩ := er_bytes hu
  rw [er_ref hv]
  obtain ⟨kvs, hd, rfl⟩ := hs.bdict q
  exact wpAny_in_of (isB _ _) (hs.notSys C q) hd.mapOf (.tok hs (by rw [← valueAt_er, Option.isSome_map] at h; exact h))
theorem o_notin_bd (C : c.Ok) {es : List (List UInt8 × MV)} {x : List UInt8} (q : σ d = some (.bd es)) (h : Q (.bool (!(getK es x).isSome)) σ) : Op2 c loc σ (compareOp .NotIn) (.bytes x) (.ref d) Q X := fun u v hu hv s hs => by
  obtain ⟨t, rfl⟩ := er_bytes hu
  rw [er_ref hv]
  obtain ⟨kvs, hd, rfl⟩ := hs.bdict q
  exact wpAny_notIn_of (isB _ _) (hs.notSys C q) hd.mapOf (.tok hs (by rw [← valueAt_er, Option.isSome_map] at h; exact h))
theorem eqAt_bytes {A : Around} {s : Shared} {b c : Array UInt8} {t u : Tok} : SeqAt.EqAt A s (.bytes b t) (.bytes c u) (decide (b.toList = c.toList)) := fun _ _ _ _ h => eqBool_bytes h
noncomputable def bytesIn (x : List UInt8) (v : Value) : Bool := match v with | .bytes b _ => decide (b.toList = x) | _ => false
theorem any_bytes {vs : List Value} {ys : List (List UInt8)} {x : List UInt8} (e : vs.map er = ys.map .bytes) : vs.any (bytesIn x) = ys.any (fun y => decide (y = x)) := by
  induction vs generalizing ys with
  | nil => cases ys with | nil => rfl | cons _ _ => cases e
  | cons v r ih =>
    cases ys with
    | nil => cases e
    | cons y q =>
      rw [List.map_cons, List.map_cons, List.cons.injEq] at e
      obtain ⟨t, hv⟩ := er_bytes e.1
      rw [List.any_cons, List.any_cons, ih e.2, hv]
      simp [bytesIn]
theorem eqAts {A : Around} {s : Shared} {vs : List Value} {ys : List (List UInt8)} {x : List UInt8} {t : Tok} (e : vs.map er = ys.map .bytes) {y : Value} (hy : y ∈ vs) : SeqAt.EqAt A s y (.bytes x.toArray t) (bytesIn x y) := by
  have : er y ∈ ys.map MV.bytes := e ▸ List.mem_map_of_mem hy
  obtain ⟨z, hz, q⟩ := List.mem_map.mp this
  obtain ⟨t', rfl⟩ := er_bytes q.symm
  have := eqAt_bytes (A := A) (s := s) (b := z.toArray) (t := t') (c := x.toArray) (u := t)
  simpa [bytesIn] using this
theorem o_in_list {ys : List (List UInt8)} {x : List UInt8} (q : σ a = some (.list (ys.map .bytes))) (h : Q (.bool (ys.any fun y => decide (y = x))) σ) : Op2 c loc σ (compareOp .In) (.bytes x) (.ref a) Q X := fun u v hu hv s hs => by
  obtain ⟨t, rfl⟩ := er_bytes hu
  rw [er_ref hv]
  obtain ⟨vs, n, g, e⟩ := hs.lst q
  exact SeqAt.in_listAt (bytesIn x) (listAt g) (fun y hy => eqAts e (by simpa using hy)) (.here hs (by rw [← Array.any_toList, any_bytes e]; exact h))
theorem o_in_tup {ys : List (List UInt8)} {x : List UInt8} (T : Has c loc σ a (.tup (ys.map .bytes))) (h : Q (.bool (ys.any fun y => decide (y = x))) σ) : Op2 c loc σ (compareOp .In) (.bytes x) (.ref a) Q X := fun u v hu hv s hs => by
  obtain ⟨t, rfl⟩ := er_bytes hu
  rw [er_ref hv]
  obtain ⟨vs, g, e, g'⟩ := T.tup hs
  exact SeqAt.in_tupleAt (bytesIn x) g' (fun y hy => eqAts e (by simpa using hy)) (.here hs (by rw [← Array.any_toList, any_bytes e]; exact h))
theorem o_notin_tup {ys : List (List UInt8)} {x : List UInt8} (T : Has c loc σ a (.tup (ys.map .bytes))) (h : Q (.bool (!ys.any fun y => decide (y = x))) σ) : Op2 c loc σ (compareOp .NotIn) (.bytes x) (.ref a) Q X := fun u v hu hv s hs => by
  obtain ⟨t, rfl⟩ := er_bytes hu
  rw [er_ref hv]
  obtain ⟨vs, g, e, g'⟩ := T.tup hs
  exact SeqAt.notIn_tupleAt (bytesIn x) g' (fun y hy => eqAts e (by simpa using hy)) (.here hs (by rw [← Array.any_toList, any_bytes e]; exact h))

/- comparing with an empty list -/
theorem units_lt (C : c.Ok) : c.A.units < cLine := Nat.lt_of_le_of_lt (Nat.le_trans (Nat.le_add_right _ _) C.units) (by decide)
theorem o_eq_nil (C : c.Ok) {xs : List MV} {b : Addr} (q : σ a = some (.list xs)) (q' : σ b = some (.list [])) (h : Q (.bool xs.isEmpty) σ) : Op2 c loc σ (compareOp .Eq) (.ref a) (.ref b) Q X := fun u v hu hv s hs => by
  rw [er_ref hu, er_ref hv]
  obtain ⟨vs, n, g, e⟩ := hs.lst q
  obtain ⟨vs', n', g', e'⟩ := hs.lst q'
  have hz := map_size e; have hz' := map_size e'
  cases xs with
  | nil => exact SeqAt.eq_listAt (e := fun _ => true) (listAt g) (listAt g') (by rw [hz, hz']) (units_lt C) (fun j h1 h2 => absurd h2 (by rw [hz']; exact Nat.not_lt_zero _)) (.here hs (by rw [hz]; exact h))
  | cons x r => exact SeqAt.eq_list_lengthsAt (listAt g) (listAt g') (by rw [hz, hz']; rfl) (units_lt C) (.here hs h)
theorem o_ne_nil (C : c.Ok) {xs : List MV} {b : Addr} (q : σ a = some (.list xs)) (q' : σ b = some (.list [])) (h : Q (.bool (!xs.isEmpty)) σ) : Op2 c loc σ (compareOp .NotEq) (.ref a) (.ref b) Q X := fun u v hu hv s hs => by
  rw [er_ref hu, er_ref hv]
  obtain ⟨vs, n, g, e⟩ := hs.lst q
  obtain ⟨vs', n', g', e'⟩ := hs.lst q'
  have hz := map_size e; have hz' := map_size e'
  cases xs with
  | nil => exact cmp_ofNotEq ((SeqAt.RcNeAt.lists (e := fun _ => true) (listAt g) (listAt g') (by rw [hz, hz']) (units_lt C) (fun j h1 h2 => absurd h2 (by rw [hz']; exact Nat.not_lt_zero _))) pw c.w _ _ (.here hs (by rw [hz]; exact h)))
  | cons x r => exact cmp_ofNotEq ((SeqAt.RcNeAt.lists_lengths (listAt g) (listAt g') (by rw [hz, hz']; rfl) (units_lt C)) pw c.w _ _ (.here hs h))
end
end
end Mine
end
section
set_option maxHeartbeats 400000
namespace Mine
noncomputable section
section
variable {c : Cx} {loc : Loc} {σ : MHeap} {α β : Type} {X : MV → MHeap → Prop} {Q : MV → MHeap → Prop} {B : Bool → MHeap → Prop} {h : Heap} {a d : Addr}
noncomputable abbrev bi (i : String) : MV := .cst (.builtin i)
noncomputable abbrev ty (i : String) : MV := .cst (.type i)
theorem of1 {us : List Value} {v : MV} (h : us.map er = [v]) : ∃ u, us = [u] ∧ er u = v := by
  match us, h with
  | [u], h => exact ⟨u, rfl, by simpa using h⟩
theorem of2 {us : List Value} {v w : MV} (h : us.map er = [v, w]) : ∃ u x, us = [u, x] ∧ er u = v ∧ er x = w := by
  match us, h with
  | [u, x], h => exact ⟨u, x, rfl, by simpa using h⟩
theorem of3 {us : List Value} {v w y : MV} (h : us.map er = [v, w, y]) : ∃ u x z, us = [u, x, z] ∧ er u = v ∧ er x = w ∧ er z = y := by
  match us, h with
  | [u, x, z], h => exact ⟨u, x, z, rfl, by simpa using h⟩
theorem c_len_list {xs : List MV} (q : σ a = some (.list xs)) (hz : xs.length ≤ 1000000) (h : Q (.int xs.length) σ) : CallR c loc σ (bi "len") [.ref a] Q X := fun u us hu hus s hs => by
  obtain ⟨v, rfl, hv⟩ := of1 hus
  rw [er_cst hu, er_ref hv]
  obtain ⟨vs, n, g, e⟩ := hs.lst q
  have z := map_size e
  exact call_len_list (listAt g) (by omega) (.tok hs (by simp only [er, z]; exact h))
theorem c_len_bytes {x : List UInt8} (hz : x.length ≤ 1000000) (h : Q (.int x.length) σ) : CallR c loc σ (bi "len") [.bytes x] Q X := fun u us hu hus s hs => by
  obtain ⟨v, rfl, hv⟩ := of1 hus
  obtain ⟨t, rfl⟩ := er_bytes hv
  rw [er_cst hu]
  exact PySem.W.len_bytes (by simp; omega) (.tok hs (by simpa [er] using h))
theorem c_int {i : Int} (h : Q (.int i) σ) : CallR c loc σ (ty "int") [.int i] Q X := fun u us hu hus s hs => by
  obtain ⟨v, rfl, hv⟩ := of1 hus
  obtain ⟨t, rfl⟩ := er_int hv
  rw [er_cst hu]
  exact call_int_int (.here hs h)
theorem c_int_bool {b : Bool} (h : Q (.int (if b then 1 else 0)) σ) : CallR c loc σ (ty "int") [.bool b] Q X := fun u us hu hus s hs => by
  obtain ⟨v, rfl, hv⟩ := of1 hus
  rw [er_cst hu, er_bool hv]
  exact call_int_bool (.tok hs h)
theorem c_max (hh : c.A.handled = none) {a b : Int} (h : Q (.int (max a b)) σ) : CallR c loc σ (bi "max") [.int a, .int b] Q X := fun u us hu hus s hs => by
  obtain ⟨v, w, rfl, hv, hw⟩ := of2 hus
  obtain ⟨t, rfl⟩ := er_int hv
  obtain ⟨t', rfl⟩ := er_int hw
  rw [er_cst hu]
  refine max_two_ints hh fun h' tk k => .at (hs.grow k) ?_
  have : (if b > a then Value.int b t' else Value.int a t) = .int (max a b) (if b > a then t' else t) := by
    by_cases z : b > a
    · rw [if_pos z, if_pos z]; congr 1; omega
    · rw [if_neg z, if_neg z]; congr 1; omega
  rw [this]; exact h
theorem c_append {xs : List MV} {v : MV} (q : σ a = some (.list xs)) (hz : xs.length ≤ 1000000) (h : Q .none (upd σ a (.list (xs ++ [v])))) : CallR c loc σ (bi "list.append") [.ref a, v] Q X := fun u us hu hus s hs => by
  obtain ⟨l, x, rfl, hl, hx⟩ := of2 hus
  rw [er_cst hu, er_ref hl]
  obtain ⟨vs, n, g, e⟩ := hs.lst q
  have z := map_size e
  exact wpAny_list_append_plain ⟨n, g⟩ (fun h' ⟨n', g'⟩ hb => .heap (hs.set hb q g' (o := .list (xs ++ [v])) ⟨_, _, rfl, by simp [e, hx]⟩) h) (lineUp (by omega))
noncomputable def emptyHeap : Heap := { objs := #[] }
theorem news1 {h : Heap} {d : Addr} {o : Obj} (e : h.get? d = some o) : News emptyHeap (d + 1) h [(d, o)] := fun p hp => by
  rw [List.mem_singleton] at hp; subst hp
  exact ⟨e, Nat.ne_of_lt (Nat.lt_succ_self _), get_none_ge (Nat.zero_le _)⟩
theorem c_get {es : List (List UInt8 × MV)} {x : List UInt8} {v : MV} (C : c.Ok) (q : σ d = some (.bd es)) (h : Q ((getK es x).getD v) σ) : CallR c loc σ (bi "dict.get") [.ref d, .bytes x, v] Q X := fun u us hu hus s hs => by
  obtain ⟨l, k, y, rfl, hl, hk, hy⟩ := of3 hus
  rw [er_cst hu, er_ref hl]
  obtain ⟨t, rfl⟩ := er_bytes hk
  obtain ⟨_, _, _, _, ob, g, kvs, hd, rfl⟩ := hs.hr _ _ q
  refine kdg_get2 (news1 g) (List.mem_singleton.mpr rfl) hd (hs.notSys C q) (isB _ _) _ rfl (.tok hs ?_)
  rw [← valueAt_er] at h
  cases e : valueAt kvs x with
  | none => rw [e] at h; simp only [Option.map_none, Option.getD_none] at h ⊢; rw [hy]; exact h
  | some w => rw [e] at h; simpa using h
noncomputable def dropK {K' : Type} [DecidableEq K'] {V : Type} (es : List (K' × V)) (k : K') : List (K' × V) := es.filter fun p => decide (p.1 ≠ k)
theorem without_er {K' : Type} [DecidableEq K'] (kvs : List (K' × Value)) (k : K') : (without kvs k).map er2 = dropK (kvs.map er2) k := by
  unfold without dropK
  rw [List.filter_map]
  rfl
theorem c_pop {es : List (List UInt8 × MV)} {x : List UInt8} {v : MV} (q : σ d = some (.bd es)) (hz : es.length ≤ 1000000) (hv : getK es x = some v) (h : Q v (upd σ d (.bd (dropK es x)))) : CallR c loc σ (bi "dict.pop") [.ref d, .bytes x] Q X := fun u us hu hus s hs => by
  obtain ⟨l, k, rfl, hl, hk⟩ := of2 hus
  rw [er_cst hu, er_ref hl]
  obtain ⟨t, rfl⟩ := er_bytes hk
  obtain ⟨kvs, hd, rfl⟩ := hs.bdict q
  obtain ⟨w, w1, w2⟩ := valueAt_of hv
  refine call_meetsIn PySem.F.slot_dict_pop hd.mapOf.typeIs PySem.F.entry_dict_pop (PySem.F.args_dict_pop_2 _ _) (meets_dict_pop_there _ d (isB _ _) [] (.inl rfl) rfl) ⟨kvs, w, hd, lineUp (by simpa using hz), w1, fun h' hm hb => ?_⟩
  obtain ⟨ob, g', hd'⟩ := Heap.dictOf_iff.mp hm
  exact Ret.at (Q := fun v σ => Q (er v) σ) (hs.set hb q g' (o := .bd (dropK (kvs.map er2) x)) ⟨_, hd', without_er _ _⟩) (by rw [w2]; exact h)

/- stores -/
noncomputable def Op3 (c : Cx) (loc : Loc) (σ : MHeap) (o i v : MV) (Q : Unit → MHeap → Prop) (X : MV → MHeap → Prop) : Prop := ∀ ou iu vu, er ou = o → er iu = i → er vu = v → WT c loc σ (setItem ou iu vu) Q X
theorem p_bd {es : List (List UInt8 × MV)} {x : List UInt8} {v : MV} {Q : Unit → MHeap → Prop} (q : σ d = some (.bd es)) (hz : es.length ≤ 1000000) (h : Q () (upd σ d (.bd (putK es x v)))) : Op3 c loc σ (.ref d) (.bytes x) v Q X := fun ou iu vu ho hi hv s hs => by
  rw [er_ref ho]
  obtain ⟨t, rfl⟩ := er_bytes hi
  obtain ⟨kvs, hd, rfl⟩ := hs.bdict q
  refine wpAny_setItem_pairs (isB _ _) hd (fun h' hm hb => ?_) (lineUp (by simpa using hz))
  obtain ⟨ob, g', hd'⟩ := Heap.dictOf_iff.mp hm
  exact .at (hs.set hb q g' (o := .bd (putK (kvs.map er2) x v)) ⟨_, hd', by rw [stored_er, hv]⟩) h
theorem p_sd {es es' : List (Str × MV)} {x : Str} {v : MV} {Q : Unit → MHeap → Prop} (q : σ d = some (.sd es)) (hz : es.length ≤ 1000000) (r : PutR x v es es') (h : Q () (upd σ d (.sd es'))) : Op3 c loc σ (.ref d) (.str x) v Q X := fun ou iu vu ho hi hv s hs => by
  rw [er_ref ho]
  obtain ⟨t, rfl⟩ := er_str hi
  obtain ⟨kvs, hd, rfl⟩ := hs.sdict q
  have hn : (kvs.map (·.1)).Nodup := let ⟨_, _, _, _, _, _, _, _, hn⟩ := hd; hn
  refine wpAny_setItem_pairs (strKind_is _ _ _ _) hd (fun h' hm hb => ?_) (lineUp (by simpa using hz))
  obtain ⟨ob, g', hd'⟩ := Heap.dictOf_iff.mp hm
  exact .at (hs.set hb q g' (o := .sd es') ⟨_, hd', by rw [stored_er, hv, r.eq (by rw [keys_er]; exact hn)]⟩) h
theorem p_list {xs : List MV} {k : Int} {v : MV} {Q : Unit → MHeap → Prop} (q : σ a = some (.list xs)) (h0 : 0 ≤ k) (hk : k < xs.length) (hz : xs.length ≤ 1000000) (h : Q () (upd σ a (.list (xs.set k.toNat v)))) : Op3 c loc σ (.ref a) (.int k) v Q X := fun ou iu vu ho hi hv s hs => by
  rw [er_ref ho]
  obtain ⟨t, rfl⟩ := er_int hi
  obtain ⟨vs, n, g, e⟩ := hs.lst q
  have z := map_size e
  refine ki_setAt g h0 (by omega) (by omega) (.heap (hs.set (Heap.SameBut.update ..) q (ob := W.listOf (vs.setIfInBounds k.toNat vu) (n + 0)) (Heap.get?_update_self _ g rfl |>.trans ?_) (o := .list (xs.set k.toNat v)) ⟨_, _, rfl, ?_⟩) h)
  · simp [Obj.mapSeq]
  · rw [Array.toList_setIfInBounds, List.map_set, e, hv]

/- attributes, set -/
noncomputable def setOk (K : Frag) (C : Addr) (a : Str) : Bool := plainOver K C && hasDictIn K C && (takerIn K C a == some none) && (findIn K (.ref C) "__setattr__" == some (some (.builtin "object.__setattr__")))
theorem putL_pairs {w : World} {name : Str} {hsh : Int} {t : Tok} {v : Value} {l : List DictEntry} {kvs : List (Str × Value)} (h : Pairs (strKind pw w) l kvs) (hn : (kvs.map (·.1)).Nodup) : Pairs (strKind pw w) (putL name hsh (.str name t) v l) (stored kvs name v) := by
  induction h with
  | nil => exact .cons (strKind_is _ _ _ _) rfl .nil
  | @cons e kv es kvs h1 h2 hr ih =>
    rw [List.map_cons, List.nodup_cons] at hn
    have ih := ih hn.2
    have his : e.key.isStr name = decide (kv.1 = name) := by
      obtain ⟨u, hu⟩ := Value.isStrOf_shape h1
      have := KeyKind.is_eq_decide (knd := strKind pw w) h1 name
      refine (isStr_of name e.key).trans (this.trans ?_)
      by_cases z : name = kv.1
      · rw [decide_eq_true z, decide_eq_true z.symm]
      · rw [decide_eq_false z, decide_eq_false fun e => z e.symm]
    unfold putL stored
    by_cases z : kv.1 = name
    · rw [his, decide_eq_true z]
      have hnm : name ∉ kvs.map (·.1) := z ▸ hn.1
      have hm : kvs.map (fun kv => if kv.1 = name then (kv.1, v) else kv) = kvs := by
        conv => rhs; rw [← List.map_id kvs]
        apply List.map_congr_left
        intro p hp
        rw [if_neg]; rfl
        exact fun e => hnm (e ▸ List.mem_map_of_mem (f := (·.1)) hp)
      simp only [if_true, List.any_cons, decide_eq_true z, Bool.true_or, List.map_cons, hm, if_pos z]
      exact .cons (by simpa [z] using h1) rfl hr
    · rw [his, decide_eq_false z]
      unfold stored at ih
      simp only [Bool.false_eq_true, if_false, List.any_cons, decide_eq_false z, Bool.false_or, List.map_cons, if_neg z]
      split at ih
      · rename_i q; rw [if_pos q]; exact .cons h1 h2 ih
      · rename_i q; rw [if_neg q]; exact .cons h1 h2 ih
theorem putL_keys {w : World} {name : Str} {t : Tok} {v : Value} {l : List DictEntry} (h : KeysOf (strKind pw w) l.toArray) : KeysOf (strKind pw w) (putL name (hashStr w name) (.str name t) v l).toArray := by
  have h' : ∀ e ∈ l, ∃ k, (strKind pw w).is k e.key = true ∧ e.hash = (strKind pw w).hash k := fun e he => h e (by simpa using he)
  suffices ∀ e ∈ putL name (hashStr w name) (.str name t) v l, ∃ k, (strKind pw w).is k e.key = true ∧ e.hash = (strKind pw w).hash k from fun e he => this e (by simpa using he)
  clear h
  induction l with
  | nil => intro e he; simp only [putL, List.mem_singleton] at he; subst he; exact ⟨name, strKind_is _ _ _ _, rfl⟩
  | cons x r ih =>
    intro e he
    unfold putL at he
    split at he
    · rcases List.mem_cons.mp he with rfl | he
      · exact h' x (.head _)
      · exact h' e (.tail _ he)
    · rcases List.mem_cons.mp he with rfl | he
      · exact h' _ (.head _)
      · exact ih (fun e he => h' e (.tail _ he)) e he
end
end
end Mine
end
section
set_option maxHeartbeats 400000
namespace Mine
noncomputable section
section
variable {c : Cx} {loc : Loc} {σ : MHeap} {α β : Type} {X : MV → MHeap → Prop} {Q : MV → MHeap → Prop} {B : Bool → MHeap → Prop} {h : Heap} {a d : Addr}
theorem putL_length {name : Str} {hsh : Int} {k v : Value} : ∀ {l : List DictEntry}, (putL name hsh k v l).length ≤ l.length + 1
  | [] => Nat.le_refl _
  | e :: r => by
    unfold putL
    split
    · simp
    · simp only [List.length_cons]; exact Nat.succ_le_succ putL_length
theorem noRef {w : World} {l : List DictEntry} {kvs : List (Str × Value)} (h : Pairs (strKind pw w) l kvs) : l.any (·.refKey) = false := by
  induction h with
  | nil => rfl
  | @cons e kv es kvs h1 h2 _ ih =>
    rw [List.any_cons, ih, Bool.or_false]
    obtain ⟨t, ht⟩ := Value.isStrOf_shape h1
    unfold DictEntry.refKey
    rw [ht]
theorem stored_nodup {K' : Type} [DecidableEq K'] {kvs : List (K' × Value)} (hn : (kvs.map (·.1)).Nodup) (k : K') (v : Value) : ((stored kvs k v).map (·.1)).Nodup := by
  unfold stored
  split
  · rw [List.map_map]
    have : ((fun p : K' × Value => p.1) ∘ fun kv : K' × Value => if kv.1 = k then (kv.1, v) else kv) = (·.1) := by
      funext p; simp only [Function.comp]; split <;> rfl
    rw [this]; exact hn
  · rename_i q
    rw [List.map_append, List.nodup_append]
    refine ⟨hn, by simp, fun x hx y hy => ?_⟩
    simp only [List.map_cons, List.map_nil, List.mem_singleton] at hy
    subst hy
    obtain ⟨p, hp, rfl⟩ := List.mem_map.mp hx
    intro e
    exact q (List.any_eq_true.mpr ⟨p, hp, by simp [e]⟩)
theorem a_set (C : c.Ok) {x d Cl : Addr} {fs fs' : List (Str × MV)} {a : Str} {v : MV} (hx : σ x = some (.inst Cl d)) (hd : σ d = some (.sd fs)) (hz : fs.length ≤ 900) (r : PutR a v fs fs') (hc : setOk (K c.w.params) Cl a = true) {Q : Unit → MHeap → Prop} (h : Q () (upd σ d (.sd fs')))
    {ou vu : Value} (ho : er ou = .ref x) (hv : er vu = v) : WT c loc σ (setAttr ou a vu) Q X := fun s hs => by
  rw [er_ref ho]
  obtain ⟨_, _, _, _, ox, hox, rfl⟩ := hs.hr _ _ hx
  obtain ⟨_, _, _, _, od, hod, R⟩ := hs.hr _ _ hd
  simp only [setOk, Bool.and_eq_true, beq_iff_eq] at hc
  obtain ⟨⟨⟨h1, h2⟩, h3⟩, h4⟩ := hc
  obtain ⟨kvs, ⟨arr, ep, e1, hdd, hk, hp, hn⟩, he⟩ := R
  obtain ⟨c0, d0, dt, sl⟩ := od
  obtain ⟨x1, x2, x3⟩ := e1
  dsimp only at x1 x2 x3 hdd
  subst x1 x2 x3 hdd he
  have X0 := (hs.st C).k
  have I : InstAt s.heap x (instObj Cl d) Cl (some (dictOf arr.toList ep)) := ⟨hox, rfl, rfl, by simpa [dictOf] using hod⟩
  refine set_plain X0 I h4 (osa_open (s := { s with toks := s.toks + 1 }) X0 I h1 h3 fun b => ?_)
  obtain ⟨cd, hcd, hd'⟩ := any_some h2
  have D : s.heap.get? d = some (dictOf arr.toList ep) := by simpa [dictOf] using hod
  have hf : Obj.putName a (PyData.keyHash c.w.params a) (.str a (s.toks + 1)) vu (dictOf arr.toList ep) = dictOf (putL a (PyData.keyHash c.w.params a) (.str a (s.toks + 1)) vu arr.toList) (putN a arr.toList ep) := putName_dict _ _ _ _ _ _
  have D' : (s.heap.update d (Obj.putName a (PyData.keyHash c.w.params a) (.str a (s.toks + 1)) vu)).get? d = some (dictOf (putL a (PyData.keyHash c.w.params a) (.str a (s.toks + 1)) vu arr.toList) (putN a arr.toList ep)) :=
    (Heap.get?_update_self _ D (by rw [hf]; rfl)).trans (congrArg some hf)
  have hlen : (putL a (PyData.keyHash c.w.params a) (.str a (s.toks + 1)) vu arr.toList).length ≤ 1000 := by
    have : arr.toList.length ≤ 900 := by rw [hp.length]; simpa using hz
    exact Nat.le_trans putL_length (by omega)
  refine wpAny_bind (wpAny_pure (wpAny_bind (wpAny_bind (wpAny_loadPart hox (wpAny_bind (Looks.here (s := { s with toks := s.toks + 1 }) (looks_clsIn X0 hcd) ?_))))))
  rw [hd']
  refine wpAny_pure (a := some d) (wpAny_bind (wpAny_pure (wpAny_bind ?_)))
  unfold nsSet
  refine wpAny_bind (wpAny_bind (wpAny_askSetting (wpAny_pure (wpAny_bind (wpAny_mkText (wpAny_bind (wpAny_loadPart D ?_)))))))
  dsimp only [dictOf]
  have c0 : (!arr.toList.toArray.any (·.key.isStr a) && arr.toList.toArray.any (·.refKey)) = false := by
    have : arr.toList.any (·.refKey) = false := by
      exact noRef hp
    rw [← Array.any_toList, ← Array.any_toList]
    rw [List.toList_toArray, this, Bool.and_false]
  rw [aRefKeyMayBeTheName_at, c0]
  refine wpAny_updatePart D ?_
  refine wpAny_bind (wpAny_lookBehind D' (pastItsLine_dict (by rw [List.size_toArray, sizeLine_eq]; omega)) ?_)
  refine wpAny_pure (.at (hs.set (Heap.SameBut.update ..) hd D' (o := .sd fs') ⟨stored kvs a vu, ⟨_, _, ⟨rfl, rfl, rfl⟩, rfl, putL_keys (by simpa using hk), by simpa using putL_pairs hp hn, ?_⟩, ?_⟩) h)
  · exact stored_nodup hn _ _
  · rw [stored_er, hv, r.eq (by rw [keys_er]; exact hn)]
end
end
end Mine
end
section
set_option maxHeartbeats 400000
namespace Mine
noncomputable section
inductive MF where | next | brk | cont | ret (v : MV)
noncomputable def erF : Flow → MF | .next => .next | .brk => .brk | .cont => .cont | .ret v => .ret (er v)
noncomputable def RetL (c : Cx) {α : Type} (Q : α → Loc → MHeap → Prop) (s : Shared) (v : α) (s' : Shared) : Prop :=
  ∃ h' k σ' loc', s' = { s with heap := h', toks := k } ∧ Sim c loc' σ' h' ∧ Q v loc' σ'
noncomputable def WL (c : Cx) (loc : Loc) (σ : MHeap) {α : Type} (t : Sem α) (Q : α → Loc → MHeap → Prop) (X : MV → MHeap → Prop) : Prop :=
  ∀ s, Sim c loc σ s.heap → wpAny c.M c.A t (RetL c Q s) (Exc c [] X s) s
noncomputable abbrev WS (c : Cx) (loc : Loc) (σ : MHeap) (ss : List Stmt) (Kt : MF → Loc → MHeap → Prop) (X : MV → MHeap → Prop) : Prop := WL c loc σ (execs ss c.env) (fun f => Kt (erF f)) X
noncomputable abbrev W1 (c : Cx) (loc : Loc) (σ : MHeap) (st : Stmt) (Kt : MF → Loc → MHeap → Prop) (X : MV → MHeap → Prop) : Prop := WL c loc σ (exec st c.env) (fun f => Kt (erF f)) X
section
variable {c : Cx} {loc : Loc} {σ : MHeap} {α β : Type} {X : MV → MHeap → Prop} {Q : MV → MHeap → Prop} {h : Heap} {a d : Addr} {Kt : MF → Loc → MHeap → Prop}
theorem RetL.of {Q : α → Loc → MHeap → Prop} {s s' : Shared} {v : α} (st : Steps s s') (S : Sim c loc σ s'.heap) (q : Q v loc σ) : RetL c Q s v s' := by
  obtain ⟨h, k, rfl⟩ := st
  exact ⟨h, k, σ, loc, rfl, S, q⟩
theorem RetL.step {Q : α → Loc → MHeap → Prop} {s s₁ : Shared} {v : α} {s' : Shared} (e : Steps s s₁) (r : RetL c Q s₁ v s') : RetL c Q s v s' := by
  obtain ⟨h, k, rfl⟩ := e
  obtain ⟨h', k', σ', loc', rfl, r⟩ := r
  exact ⟨h', k', σ', loc', rfl, r⟩
theorem WL.use {t : Sem α} {Q₁ : α → Loc → MHeap → Prop} {R : α → Shared → Prop} {s₀ s : Shared} (h : WL c loc σ t Q₁ X) (st : Steps s₀ s) (S : Sim c loc σ s.heap)
    (k : ∀ v loc' σ' s', Steps s₀ s' → Sim c loc' σ' s'.heap → Q₁ v loc' σ' → R v s') : wpAny c.M c.A t R (Exc c [] X s₀) s :=
  wpAny_mono (h s S) (fun v s' ⟨h', k', σ', loc', e, S', q⟩ => by subst e; exact k v loc' σ' _ (st.to _ _) S' q) fun _ _ r => r.step st
theorem WL.run {t : Sem α} {Q : α → Loc → MHeap → Prop} {s₀ s : Shared} (h : WL c loc σ t Q X) (st : Steps s₀ s) (S : Sim c loc σ s.heap) : wpAny c.M c.A t (RetL c Q s₀) (Exc c [] X s₀) s :=
  wpAny_mono (h s S) (fun _ _ r => r.step st) fun _ _ r => r.step st
theorem WL.mono {t : Sem α} {Q Q' : α → Loc → MHeap → Prop} {X' : MV → MHeap → Prop} (h : WL c loc σ t Q X) (hQ : ∀ v loc' σ', Q v loc' σ' → Q' v loc' σ') (hX : ∀ v σ', X v σ' → X' v σ') : WL c loc σ t Q' X' := fun s hs =>
  wpAny_mono (h s hs) (fun _ _ ⟨h', k, σ', loc', e, S, q⟩ => ⟨h', k, σ', loc', e, S, hQ _ _ _ q⟩) fun _ _ ⟨h', k, σ', t, a, e1, e2, T, x⟩ => ⟨h', k, σ', t, a, e1, e2, T, hX _ _ x⟩
theorem WL.weak {t : Sem α} {Q : α → Loc → MHeap → Prop} {loc' : Loc} (h : WL c loc' σ t Q X) (hl : ∀ p ∈ loc', p ∈ loc) : WL c loc σ t Q X := fun s hs => h s (hs.weak hl)
theorem WL.sub {t : Sem α} {Q : α → Loc → MHeap → Prop} {σ' : MHeap} (h : WL c loc σ' t Q X) (hl : ∀ a o, σ' a = some o → σ a = some o) : WL c loc σ t Q X := fun s hs => h s (hs.sub hl)
theorem WT.sub {t : Sem α} {Q : α → MHeap → Prop} {σ' : MHeap} (h : WT c loc σ' t Q X) (hl : ∀ a o, σ' a = some o → σ a = some o) : WT c loc σ t Q X := fun s hs => h s (hs.sub hl)

theorem S_nil (h : Kt .next loc σ) : WS c loc σ [] Kt X := fun s hs => wpAny_execs_nil (.of .rfl hs h)
theorem S_cons {st : Stmt} {r : List Stmt} (h : W1 c loc σ st (fun f loc' σ' => match f with | .next => WS c loc' σ' r Kt X | f => Kt f loc' σ') X) : WS c loc σ (st :: r) Kt X := fun s hs =>
  wpAny_execs_cons (h.use .rfl hs fun f loc' σ' s' st' S' q => by
    cases f with
    | next => exact WL.run q st' S'
    | brk => exact .of st' S' q
    | cont => exact .of st' S' q
    | ret v => exact .of st' S' q)
theorem S_pass {pos : Pos} (h : Kt .next loc σ) : W1 c loc σ (.Pass pos) Kt X := fun s hs => wpAny_Pass (.of .rfl hs h)
theorem S_break {pos : Pos} (h : Kt .brk loc σ) : W1 c loc σ (.Break pos) Kt X := fun s hs => wpAny_Break (.of .rfl hs h)
theorem S_ret {e : Expr} {pos : Pos} (h : WE c loc σ (eval e c.env) (fun v σ' => Kt (.ret v) loc σ') X) : W1 c loc σ (.Return (some e) pos) Kt X := fun s hs =>
  wpAny_Return_some (h.use .rfl hs fun v σ' s' st S q => .of st S q)
theorem S_ret_none {pos : Pos} (h : Kt (.ret .none) loc σ) : W1 c loc σ (.Return none pos) Kt X := fun s hs => wpAny_Return_none (.of .rfl hs h)
theorem S_if {t : Expr} {b o : List Stmt} {pos : Pos} (h : WB c loc σ t (fun z σ₁ => if z = true then WS c loc σ₁ b Kt X else WS c loc σ₁ o Kt X) X) : W1 c loc σ (.If t b o pos) Kt X := fun s hs =>
  wpAny_If (h.use .rfl hs fun z σ₁ s₁ st₁ S₁ h₁ => by cases z <;> simp at h₁ ⊢ <;> exact h₁.run st₁ S₁)
theorem S_expr {e : Expr} {pos : Pos} (h : WE c loc σ (eval e c.env) (fun _ σ' => Kt .next loc σ') X) (hi : interactive c.env = false) (hs : swapsWith e none pos.line c.env = pure false) : W1 c loc σ (.Expr e pos) Kt X := fun s hs' =>
  wpAny_Expr_any (h.use .rfl hs' fun v σ' s' st S q => .of st S q) hi hs

/- stores of names -/
theorem Sim.store (C : c.Ok) (S : Sim c loc σ h) {x : Str} {u : Value} {h' : Heap} {m : Str → Option Value} (hm : h.Ns c.L m) (hl : ∀ p ∈ loc, ∃ u, m p.1 = some u ∧ er u = p.2) (n : h'.Ns c.L fun y => if y = x then some u else m y) (hb : Heap.SameBut c.L h h') {loc' : Loc} (w : Wipe x loc loc') : Sim c ((x, er u) :: loc') σ h' := by
  refine ⟨fun b o q => (hb.2 b fun z => ?_).trans (S.keep b o q), ⟨_, n, fun p hp => ?_⟩, fun p hp => (S.outs p hp).sameBut hb (C.frl p hp).2, fun p hp => (hb.2 _ (C.fxl p hp).1).trans (S.fx p hp), fun b o q => ?_⟩
  · rw [z, get_none_ge C.lo] at q; cases q
  · rcases List.mem_cons.mp hp with rfl | hp
    · exact ⟨u, if_pos rfl, rfl⟩
    · obtain ⟨h1, h2⟩ := w.spec p hp
      obtain ⟨v, h3, h4⟩ := hl p h1
      exact ⟨v, by rw [if_neg h2]; exact h3, h4⟩
  · obtain ⟨x, y, z, z', ob, u, v⟩ := S.hr b o q
    exact ⟨x, y, z, z', ob, (hb.2 b y).trans u, v⟩
theorem L_store (C : c.Ok) {x : Str} {u : Value} {Q : Unit → Loc → MHeap → Prop} {loc' : Loc} (w : Wipe x loc loc') (h : Q () ((x, er u) :: loc') σ) (hl : c.env.kindOf x = some .local) : WL c loc σ (storeName c.env x u) Q X := fun s hs => by
  obtain ⟨m, hm, hm'⟩ := id hs.ns
  have hp : (c.env.scope.kind == .class || (c.env.scope.kind == .module && c.env.locals != c.env.globals)) = false := by
    rw [C.kind]; rfl
  exact wpAny_storeName_local (env := c.env) hl hm (fun h' n hb => .of ⟨h', _, rfl⟩ (hs.store C hm hm' n hb w) h) hp
theorem S_name (C : c.Ok) {x : Str} {p pos : Pos} {e : Expr} (h : WE c loc σ (eval e c.env) (fun v σ' => ∃ loc', Wipe x loc loc' ∧ Kt .next ((x, v) :: loc') σ') X) (hl : c.env.kindOf x = some .local)
    (hs : swapsWith e (some (.Name x p)) pos.line c.env = pure false) : W1 c loc σ (.Assign [.Name x p] e pos) Kt X := fun s hs' =>
  wpAny_Assign_Name (h.use .rfl hs' fun v σ' s' st S ⟨loc', w, q⟩ => (L_store (Q := fun _ => Kt .next) C w q hl).run st S) hs
theorem S_setattr {o : Expr} {x : Str} {p pos : Pos} {e : Expr} (h : WE c loc σ (eval e c.env) (fun v σ₁ => WE c loc σ₁ (eval o c.env) (fun ov σ₂ => ∀ ou vu, er ou = ov → er vu = v → WT c loc σ₂ (setAttr ou x vu) (fun _ σ₃ => Kt .next loc σ₃) X) X) X)
    (hs : swapsWith e (some (.Attribute o x p)) pos.line c.env = pure false) : W1 c loc σ (.Assign [.Attribute o x p] e pos) Kt X := fun s hs' =>
  plainObj_wpAny_Assign_Attribute (h.use .rfl hs' fun v σ₁ s₁ st₁ S₁ h₁ => h₁.use st₁ S₁ fun ov σ₂ s₂ st₂ S₂ h₂ => (h₂ ov v rfl rfl).use st₂ S₂ fun _ σ₃ s₃ st₃ S₃ q => .of st₃ S₃ q) hs
theorem S_setsub {o i : Expr} {p pos : Pos} {e : Expr} (h : WE c loc σ (eval e c.env) (fun v σ₁ => WE c loc σ₁ (eval o c.env) (fun ov σ₂ => WE c loc σ₂ (eval i c.env) (fun iv σ₃ => Op3 c loc σ₃ ov iv v (fun _ σ₄ => Kt .next loc σ₄) X) X) X) X)
    (hs : swapsWith e (some (.Subscript o i p)) pos.line c.env = pure false) : W1 c loc σ (.Assign [.Subscript o i p] e pos) Kt X := fun s hs' =>
  wpAny_Assign_Subscript (h.use .rfl hs' fun v σ₁ s₁ st₁ S₁ h₁ => h₁.use st₁ S₁ fun ov σ₂ s₂ st₂ S₂ h₂ => h₂.use st₂ S₂ fun iv σ₃ s₃ st₃ S₃ h₃ => (h₃ ov iv v rfl rfl rfl).use st₃ S₃ fun _ σ₄ s₄ st₄ S₄ q => .of st₄ S₄ q) hs
theorem S_augattr {o value : Expr} {x : Str} {tp pos : Pos} {op : Operator} (h : WE c loc σ (eval o c.env) (fun ov σ₁ => Op1 c loc σ₁ (fun u => getAttr u x true) ov (fun old σ₂ => WE c loc σ₂ (eval value c.env) (fun v σ₃ => Op2 c loc σ₃ (inplaceOp op) (er old) v (fun nv σ₄ => ∀ ou vu, er ou = ov → er vu = nv → WT c loc σ₄ (setAttr ou x vu) (fun _ σ₅ => Kt .next loc σ₅) X) X) X) X) X) :
    W1 c loc σ (.AugAssign (.Attribute o x tp) op value pos) Kt X := fun s hs =>
  wpAny_AugAssign_AttributeAny (h.use .rfl hs fun ov σ₁ s₁ st₁ S₁ h₁ => (h₁ ov rfl).use st₁ S₁ fun old σ₂ s₂ st₂ S₂ h₂ => h₂.use st₂ S₂ fun v σ₃ s₃ st₃ S₃ h₃ => (h₃ old v rfl rfl).use st₃ S₃ fun nv σ₄ s₄ st₄ S₄ h₄ => (h₄ ov nv rfl rfl).use st₄ S₄ fun _ σ₅ s₅ st₅ S₅ q => .of st₅ S₅ q)
theorem o_iadd {a b : Int} (h : Q (.int (a + b)) σ) : Op2 c loc σ (inplaceOp .Add) (.int a) (.int b) Q X := fun u v hu hv => by
  obtain ⟨t, rfl⟩ := er_int hu; obtain ⟨t', rfl⟩ := er_int hv
  exact fun s hs => iadd_int (.tok hs h)
theorem o_isub {a b : Int} (h : Q (.int (a - b)) σ) : Op2 c loc σ (inplaceOp .Sub) (.int a) (.int b) Q X := fun u v hu hv => by
  obtain ⟨t, rfl⟩ := er_int hu; obtain ⟨t', rfl⟩ := er_int hv
  exact fun s hs => isub_int (.tok hs h)

/- tuples of targets -/
noncomputable def WSt (c : Cx) (loc : Loc) (σ : MHeap) (ts : List (Value → Sem Unit)) (vs : List MV) (Q : Loc → MHeap → Prop) (X : MV → MHeap → Prop) : Prop := ∀ us : List Value, us.map er = vs → WL c loc σ (assignInOrder ts us) (fun _ => Q) X
theorem A_nil {Q : Loc → MHeap → Prop} (h : Q loc σ) : WSt c loc σ [] [] Q X := fun us e s hs => assignInOrder_nil (.of .rfl hs h)
theorem A_cons {t : Value → Sem Unit} {ts : List (Value → Sem Unit)} {v : MV} {vs : List MV} {Q : Loc → MHeap → Prop} (h : ∀ u, er u = v → WL c loc σ (t u) (fun _ loc' σ' => WSt c loc' σ' ts vs Q X) X) : WSt c loc σ (t :: ts) (v :: vs) Q X := fun us e s hs => by
  cases us with
  | nil => cases e
  | cons u r =>
    rw [List.map_cons, List.cons.injEq] at e
    exact assignInOrder_cons ((h u e.1).use .rfl hs fun _ loc' σ' s' st S q => (q r e.2).run st S)
theorem A_name (C : c.Ok) {x : Str} {p : Pos} {u : Value} {v : MV} {Q : Unit → Loc → MHeap → Prop} {loc' : Loc} (hu : er u = v) (w : Wipe x loc loc') (h : Q () ((x, v) :: loc') σ) (hl : c.env.kindOf x = some .local) : WL c loc σ (assign (.Name x p) c.env u) Q X := fun s hs =>
  PyProof.Rows.assign_Name ((L_store C w (by rw [hu]; exact h) hl) s hs)
theorem A_bind (C : c.Ok) {x : Str} {u : Value} {v : MV} {Q : Unit → Loc → MHeap → Prop} {loc' : Loc} (hu : er u = v) (w : Wipe x loc loc') (h : Q () ((x, v) :: loc') σ) (hl : c.env.kindOf x = some .local) : WL c loc σ (bindName c.env x u) Q X := fun s hs =>
  bindName_ ((L_store C w (by rw [hu]; exact h) hl) s hs)
theorem A_attr {o : Expr} {x : Str} {p : Pos} {u : Value} {v : MV} {Q : Unit → Loc → MHeap → Prop} (hu : er u = v) (h : WE c loc σ (eval o c.env) (fun ov σ₂ => ∀ ou vu, er ou = ov → er vu = v → WT c loc σ₂ (setAttr ou x vu) (fun _ σ₃ => Q () loc σ₃) X) X) : WL c loc σ (assign (.Attribute o x p) c.env u) Q X := fun s hs => by
  rw [assign_Attribute]
  exact wpAny_bind (wpAny_holding (h.use .rfl hs fun ov σ₂ s₂ st₂ S₂ h₂ => wpAny_bind (wpAny_standAt (wpAny_bind (wpAny_holding ((h₂ ov u rfl hu).use st₂ S₂ fun _ σ₃ s₃ st₃ S₃ q => wpAny_release (.of st₃ S₃ q)))))))
theorem A_sub {o i : Expr} {p : Pos} {u : Value} {v : MV} {Q : Unit → Loc → MHeap → Prop} (hu : er u = v) (h : WE c loc σ (eval o c.env) (fun ov σ₂ => WE c loc σ₂ (eval i c.env) (fun iv σ₃ => Op3 c loc σ₃ ov iv v (fun _ σ₄ => Q () loc σ₄) X) X) X) : WL c loc σ (assign (.Subscript o i p) c.env u) Q X := fun s hs => by
  rw [assign_Subscript]
  exact wpAny_bind (wpAny_holding (h.use .rfl hs fun ov σ₂ s₂ st₂ S₂ h₂ => wpAny_bind (wpAny_holding (h₂.use st₂ S₂ fun iv σ₃ s₃ st₃ S₃ h₃ => wpAny_bind (wpAny_standAt (wpAny_bind (wpAny_holding ((h₃ ov iv u rfl rfl hu).use st₃ S₃ fun _ σ₄ s₄ st₄ S₄ q => wpAny_release (.of st₄ S₄ q)))))))))
theorem S_tuple (H : c.A.handled = none) {ts vs : List Expr} {k k' : Nat} {p p' pos : Pos} (h : WArgs c loc σ p' vs (fun xs σ₁ => xs.length ≤ 1000 ∧ (assignEach ts c.env).length = xs.length ∧ WSt c loc σ₁ ((assignEach ts c.env).map (·.2)) xs (Kt .next) X) X)
    (hf : (assignEach ts c.env).findIdx? (·.1) = none) (hs : swapsWithSole [.Tuple ts k p] (.Tuple vs k' p') pos.line c.env = pure false) (hw : swappedStores [.Tuple ts k p] (.Tuple vs k' p') c.env = pure none) : W1 c loc σ (.Assign [.Tuple ts k p] (.Tuple vs k' p') pos) Kt X := fun s hs' =>
  Assign_Tuple (wpAny_Tuple (h.use .rfl hs' fun us σ₁ s₁ st₁ S₁ ⟨h1, h2, h3⟩ => by
    have hl : us.length ≤ 1000 := by simpa using h1
    refine ⟨lineUp (by omega), assign_Tuple_tuple H (items := us.toArray) ⟨_, Heap.get?_push_size _ rfl, rfl, _, rfl⟩ (by simpa using h2) hf fun h' he => ?_⟩
    have S₂ : Sim c loc σ₁ h' := S₁.grow fun b o e => he b o (Nat.ne_of_lt (Nat.lt_trans (Heap.lt_size e) (by rw [Heap.size_push]; exact Nat.lt_succ_self _))) (Heap.get?_push_of_some _ e)
    exact (h3 _ (by simp)).use (s := { s₁ with heap := h' }) (st₁.to _ _) S₂ fun _ loc' σ' s' st S q => .of st S q)) hs hw
theorem S_swap (H : c.A.handled = none) {ts vs : List Expr} {k k' : Nat} {p p' pos : Pos} {names : List Str} (h : WArgs c loc σ p' vs (fun xs σ₁ => xs.length ≤ 1000 ∧ names.length = xs.length ∧ WSt c loc σ₁ (names.reverse.map fun n => bindName c.env n) xs.reverse (Kt .next) X) X)
    (hs : swapsWithSole [.Tuple ts k p] (.Tuple vs k' p') pos.line c.env = pure false) (hw : swappedStores [.Tuple ts k p] (.Tuple vs k' p') c.env = pure (some names)) : W1 c loc σ (.Assign [.Tuple ts k p] (.Tuple vs k' p') pos) Kt X := fun s hs' =>
  Assign_Tuple_swapped (names := names) (wpAny_Tuple (h.use .rfl hs' fun us σ₁ s₁ st₁ S₁ ⟨h1, h2, h3⟩ => by
    have hl : us.length ≤ 1000 := by simpa using h1
    have hn : names.length = us.toArray.size := by simpa using h2
    refine ⟨lineUp (by omega), ?_⟩
    rw [hn]
    refine unpackItems_tuple H (items := us.toArray) ⟨_, Heap.get?_push_size _ rfl, rfl, _, rfl⟩ fun h' he => ?_
    have S₂ : Sim c loc σ₁ h' := S₁.grow fun b o e => he b o (Nat.ne_of_lt (Nat.lt_trans (Heap.lt_size e) (by rw [Heap.size_push]; exact Nat.lt_succ_self _))) (Heap.get?_push_of_some _ e)
    exact (h3 _ (by simp)).use (s := { s₁ with heap := h' }) (st₁.to _ _) S₂ fun _ loc' σ' s' st S q => .of st S q)) hs hw
theorem E_tuple (C : c.Ok) {vs : List Expr} {k : Nat} {pos : Pos} (h : WArgs c loc σ pos vs (fun xs σ₁ => xs.length ≤ 1000 ∧ Made σ₁ (.tup xs) Q) X) : WE c loc σ (eval (.Tuple vs k pos) c.env) Q X := fun s hs =>
  wpAny_Tuple (h.use .rfl hs fun us σ₁ s₁ st₁ S₁ ⟨h1, h2⟩ => ⟨lineUp (by simp at h1; omega), .of (st₁.to _ _) (S₁.push (o := .tup (us.map er)) C rfl ⟨us.toArray, _, rfl, by simp⟩) (h2 _ (S₁.fresh (Nat.le_refl _)))⟩)
theorem E_list (C : c.Ok) {vs : List Expr} {pos : Pos} (h : WArgs c loc σ pos vs (fun xs σ₁ => xs.length ≤ 1000 ∧ Made σ₁ (.list xs) Q) X) : WE c loc σ (eval (.List vs pos) c.env) Q X := fun s hs =>
  PySem.wpAny_List (h.use .rfl hs fun us σ₁ s₁ st₁ S₁ ⟨h1, h2⟩ => ⟨lineUp (by simp at h1; omega), .of (st₁.to _ _) (S₁.push (o := .list (us.map er)) C rfl ⟨us.toArray, _, rfl, by simp⟩) (h2 _ (S₁.fresh (Nat.le_refl _)))⟩)
end
end
end Mine
end
section
set_option maxHeartbeats 400000
namespace Mine
noncomputable section
section
variable {c : Cx} {loc : Loc} {σ : MHeap} {α β : Type} {X : MV → MHeap → Prop} {Q : MV → MHeap → Prop} {h h' : Heap} {a d : Addr} {Kt : MF → Loc → MHeap → Prop}
theorem Sim.other (S : Sim c loc σ h) (ap : Apart c σ a) (hs : Heap.SameBut a h h') : Sim c loc σ h' := by
  obtain ⟨a1, a2, a3, a4, a5⟩ := ap
  refine ⟨fun b o q => (hs.2 b fun z => ?_).trans (S.keep b o q), ?_, fun p hp => (S.outs p hp).sameBut hs (a4 p hp), fun p hp => (hs.2 _ (a5 p hp)).trans (S.fx p hp), fun b o' q => ?_⟩
  · rw [z, get_none_ge a1] at q; cases q
  · obtain ⟨m, x, y⟩ := S.ns; exact ⟨m, x.sameBut hs a3.symm, y⟩
  · obtain ⟨x, y, z, z', ob', u, v⟩ := S.hr b o' q
    refine ⟨x, y, z, z', ob', (hs.2 b fun e => ?_).trans u, v⟩
    rw [e, a2] at q; cases q
theorem ns_slots {L : Addr} {m : Str → Option Value} {T : List Addr} (n : h.Ns L m) (hs : Heap.SlotsOnly T h h') : h'.Ns L m := by
  obtain ⟨o, es, ep, e, hd, r⟩ := n
  obtain ⟨sl, e'⟩ := hs.2.2 _ _ e
  exact ⟨_, es, ep, e', hd, r⟩
theorem Sim.slots (C : c.Ok) (S : Sim c loc σ h) (hs : Heap.SlotsOnly (c.frames.filterMap (·.frame)) h h') : Sim c loc σ h' := by
  have hn : ∀ b, b ≠ c.L → (∀ p ∈ c.fr, p.1 ≠ b) → h'.get? b = h.get? b := fun b h1 h2 => hs.2.1 b fun z => by
    obtain ⟨e, he, q⟩ := List.mem_filterMap.mp z
    obtain ⟨_, a, e1, e2⟩ := C.fre e he
    have q' : e.frame = some b := q
    rw [e1] at q'; cases q'
    rcases e2 with e2 | ⟨p, hp, e2⟩
    · exact h1 e2
    · exact h2 p hp e2
  refine ⟨fun b o q => (hn b (fun z => ?_) fun p hp z => ?_).trans (S.keep b o q), ?_, fun p hp => ns_slots (S.outs p hp) hs, fun p hp => (hn _ (C.fxl p hp).1 fun q hq => (C.fxl p hp).2 q hq).trans (S.fx p hp), fun b o' q => ?_⟩
  · rw [z, get_none_ge C.lo] at q; cases q
  · rw [← z, get_none_ge (C.frl p hp).1] at q; cases q
  · obtain ⟨m, x, y⟩ := S.ns; exact ⟨m, ns_slots x hs, y⟩
  · obtain ⟨x, y, z, z', ob', u, v⟩ := S.hr b o' q
    exact ⟨x, y, z, z', ob', (hn b y z).trans u, v⟩
theorem Sim.apart (C : c.Ok) (S : Sim c loc σ h) (e : h.objs.size ≤ a) : Apart c σ a := by
  refine ⟨Nat.le_trans (Nat.le_of_lt (S.size C)) e, S.fresh e, fun z => ?_, fun p hp z => ?_, fun p hp z => ?_⟩
  · obtain ⟨m, x, _⟩ := S.ns; have := x.lt; rw [← z] at this; exact absurd this (Nat.not_lt.mpr e)
  · have := (S.outs p hp).lt; rw [z] at this; exact absurd this (Nat.not_lt.mpr e)
  · have := Heap.lt_size (S.fx p hp); rw [z] at this; exact absurd this (Nat.not_lt.mpr e)
theorem funFrames_of {base : Heap} (hb : ∀ a, base.get? a = none) {l : List Env} (o : ∀ e ∈ l, e.scope.kind = .function ∧ ∃ a m, e.frame = some a ∧ h.Ns a m) : h.FunFrames base l := by
  induction l with
  | nil => trivial
  | cons e r ih =>
    obtain ⟨h1, a, m, h2, ob, es, ep, g, hd, _⟩ := o e (.head _)
    exact ⟨by rw [h1]; decide, ⟨a, ob, h2, hb _, g, fun vs z => by rw [hd] at z; cases z⟩, ih fun q hq => o q (.tail _ hq)⟩
theorem Sim.funFrames (C : c.Ok) (S : Sim c loc σ h) : h.FunFrames emptyHeap c.frames :=
  funFrames_of (fun a => get_none_ge (Nat.zero_le _)) fun e he => by
    obtain ⟨h1, a, h2, h3⟩ := C.fre e he
    rcases h3 with rfl | ⟨p, hp, rfl⟩
    · obtain ⟨m, x, _⟩ := S.ns; exact ⟨h1, _, m, h2, x⟩
    · exact ⟨h1, _, p.2, h2, S.outs p hp⟩
noncomputable def Rest (h h' : Heap) (ex : List Addr) : Prop := ∀ b o, b ∉ ex → h.get? b = some o → h'.get? b = some o
theorem mapF {a : Addr} {o : Obj} {vs : Array Value} (hd : o.data = .fields vs) (f : Array Value → Array Value) : Obj.mapFields f o = { o with data := .fields (f vs) } := by
  obtain ⟨c0, d0, dt, sl⟩ := o
  dsimp only at hd
  subst hd
  rfl
theorem upd_fields {h : Heap} {a : Addr} {o : Obj} {vs : Array Value} (g : h.get? a = some o) (hd : o.data = .fields vs) (f : Array Value → Array Value) : (h.update a (Obj.mapFields f)).get? a = some { o with data := .fields (f vs) } := by
  rw [Heap.get?_update_self _ g (by rw [mapF (a := a) hd]; rfl), mapF (a := a) hd]
/- the tail of «noteFrame»: a new entry ahead of «head» -/
theorem note_tail (C : c.Ok) (F : c.Fun) {a ed : Addr} {s : Shared} {oe : Obj} {vs : Array Value} {hadNext : Bool} {head : Value} {E : Value → Shared → Prop} {Q : Unit → Shared → Prop} (S : Sim c loc σ s.heap) (ap : Apart c σ a) (he : s.heap.get? a = some oe) (hc : oe.cls = .ref 52) (hd : oe.dict = some ed) (hv : oe.data = .fields vs) (hz : 1 < vs.size)
    (h : ∀ h' T v3, Sim c loc σ h' → Apart c σ T → TracedExc v3 a ed T h' → Q () { s with heap := h' }) :
    wpAny c.M c.A (do setField (.ref a) 1 (← EntryCells.newEntry head (← frameOf c.env) .none (rawInt c.L) .none (← entryPlaceOf c.L hadNext))) Q E s := by
  obtain ⟨F1, outer, F2⟩ := F
  have FF := S.funFrames C
  have CF := C.frames
  rw [F2] at FF CF
  refine wpAny_bind (wpAny_frameOf_fun CF FF F1 fun h₁ hs₁ => wpAny_bind (wpAny_entryPlaceOf fun pl hpl => wpAny_bind ?_))
  have S₁ := S.slots C (by rw [F2]; exact hs₁)
  have he₁ : ∃ sl, h₁.get? a = some { oe with slots := sl } := hs₁.2.2 _ _ he
  obtain ⟨sl, he₁⟩ := he₁
  unfold EntryCells.newEntry newFields
  have hsz : sizeOk (.fields ([head, .ref c.L, .none, rawInt c.L, .none] ++ (if pl.isEmpty then List.replicate 6 .none else pl)).toArray) := hpl.sizeOk5 ..
  refine wpAny_newObj_type ?_ hsz
  have S₂ : Sim c loc σ (h₁.push { cls := .type "traceback", data := .fields ([head, .ref c.L, .none, rawInt c.L, .none] ++ (if pl.isEmpty then List.replicate 6 .none else pl)).toArray }) := S₁.grow fun _ _ e => Heap.get?_push_of_some _ e
  have apT := S₁.apart C (Nat.le_refl h₁.objs.size)
  have he₂ := Heap.get?_push_of_some (o := { cls := .type "traceback", data := .fields ([head, .ref c.L, .none, rawInt c.L, .none] ++ (if pl.isEmpty then List.replicate 6 .none else pl)).toArray }) he₁
  refine wpAny_setField he₂ hv hz (h _ h₁.objs.size (rawInt c.L) (S₂.other ap (Heap.SameBut.update ..)) apT ?_)
  have hne : h₁.objs.size ≠ a := fun z => by have := Heap.lt_size he₁; rw [← z] at this; exact absurd this (Nat.lt_irrefl _)
  refine ⟨_, _, _, _, upd_fields he₂ hv _, hc, hd, rfl, ?_, hne, (Heap.get?_update_ne _ _ _ _ hne).trans (Heap.get?_push_size _ rfl), rfl, ?_⟩
  · simp [hz]
  · simp
theorem setFlight_none (C : c.Ok) {a ed T : Addr} {v3 : Value} {s : Shared} {E : Value → Shared → Prop} {Q : Unit → Shared → Prop} (S : Sim c loc σ s.heap) (apT : Apart c σ T) (t : TracedExc v3 a ed T s.heap)
    (h : ∀ h', Sim c loc σ h' → TracedExc .none a ed T h' → Q () { s with heap := h' }) : wpAny c.M c.A (setFlight (.ref a) none) Q E s := by
  obtain ⟨oe, vs, oT, ts, he, hc, hd, hv, h1, hne, hT, hTd, h3⟩ := t
  unfold setFlight
  refine wpAny_bind (wpAny_field he hv h1 ?_)
  rw [if_pos (show ((Value.ref T != Value.none) = true) from rfl)]
  have h3' : 3 < ts.size := by
    have := Array.getElem?_eq_some_iff.mp h3
    exact this.1
  refine wpAny_setField hT hTd h3' (h _ (S.other apT (Heap.SameBut.update ..)) ?_)
  exact ⟨oe, vs, _, _, (Heap.get?_update_ne _ _ _ _ hne.symm).trans he, hc, hd, hv, h1, hne, upd_fields hT hTd _, rfl, by simp [h3']⟩
theorem noteFrame_ok (C : c.Ok) (F : c.Fun) {a ed : Addr} {s : Shared} {E : Value → Shared → Prop} {Q : Unit → Shared → Prop} (S : Sim c loc σ s.heap) (ap : Apart c σ a) (ex : FreshExc a ed s.heap ∨ ∃ T, Apart c σ T ∧ TracedExc .none a ed T s.heap)
    (h : ∀ h' T v3, Sim c loc σ h' → Apart c σ T → TracedExc v3 a ed T h' → Q () { s with heap := h' }) : wpAny c.M c.A (noteFrame (.ref a) c.env) Q E s := by
  unfold noteFrame
  rw [F.1]
  show wpAny c.M c.A (field (.ref a) 1 >>= _) Q E s
  rcases ex with ⟨t, sl, he⟩ | ⟨T, apT, oe, vs, oT, ts, he, hc, hd, hv, h1, hne, hT, hTd, h3⟩
  · refine wpAny_bind (wpAny_field (i := 1) (x := .none) he rfl rfl ?_)
    rw [if_neg (show ¬ ((Value.none != Value.none) = true) from by decide)]
    exact note_tail C F S ap he rfl rfl rfl (show 1 < 6 from by decide) h
  · refine wpAny_bind (wpAny_field he hv h1 ?_)
    rw [if_pos (show ((Value.ref T != Value.none) = true) from rfl)]
    refine wpAny_bind (wpAny_field hT hTd h3 ?_)
    rw [if_neg (show ¬ ((Value.none == rawInt c.L) = true) from by intro z; cases z)]
    have h3' : 3 < ts.size := (Array.getElem?_eq_some_iff.mp h3).1
    refine wpAny_bind (wpAny_setField hT hTd h3' ?_)
    have he' : (s.heap.update T (Obj.mapFields fun x => x.setIfInBounds 3 .none)).get? a = some oe := (Heap.get?_update_ne _ _ _ _ hne.symm).trans he
    refine note_tail (s := { s with heap := s.heap.update T (Obj.mapFields fun x => x.setIfInBounds 3 .none) }) C F (S.other apT (Heap.SameBut.update ..)) ap he' hc hd hv (Array.getElem?_eq_some_iff.mp h1).1 h
theorem leaving_ok (C : c.Ok) (F : c.Fun) {a : Addr} {told : MV} {s : Shared} {E : Value → Shared → Prop} {Q : Unit → Shared → Prop} (T : Thrown c loc σ told a s.heap)
    (h : ∀ h', Thrown c loc σ told a h' → Q () { s with heap := h' }) : wpAny c.M c.A (leaving c.env (.ref a)) Q E s := by
  obtain ⟨S, ap, ed, hed, ex⟩ := T
  unfold leaving
  refine wpAny_bind (noteFrame_ok C F S ap ex fun h' T v3 S' apT t => ?_)
  exact setFlight_none (s := { s with heap := h' }) C S' apT t fun h'' S'' t' => h h'' ⟨S'', ap, ed, hed, .inr ⟨T, apT, t'⟩⟩
end
end
end Mine
end
section
set_option maxHeartbeats 400000
namespace Mine
noncomputable section
section
variable {c : Cx} {loc : Loc} {σ : MHeap} {α β : Type} {X : MV → MHeap → Prop} {Q : MV → MHeap → Prop} {h h' : Heap} {a d : Addr} {Kt : MF → Loc → MHeap → Prop}
noncomputable def retOf : MF → MV | .ret v => v | _ => .none
theorem retOf_er (f : Flow) : er (match f with | .ret v => v | _ => .none) = retOf (erF f) := by cases f <;> rfl
theorem zip_lookup {names : List Str} {us : List Value} {vs : List MV} (e : us.map er = vs) (hn : names.Nodup) : ∀ p ∈ names.zip vs, ∃ u, (names.zip us).reverse.lookup p.1 = some u ∧ er u = p.2 := by
  subst e
  intro p hp
  rw [List.zip_map_right] at hp
  obtain ⟨q, hq, rfl⟩ := List.mem_map.mp hp
  refine ⟨q.2, ?_, rfl⟩
  have hk : ((names.zip us).map (·.1)).Nodup := by
    have : (names.zip us).map (·.1) = names.take us.length := by
      clear hn hp hq
      clear q
      induction names generalizing us with
      | nil => simp
      | cons x r ih => cases us with
        | nil => simp
        | cons u t => simp [ih]
    rw [this]
    exact hn.sublist (List.take_sublist _ _)
  generalize names.zip us = l at hq hk
  have : ∀ (l : List (Str × Value)) (r : List (Str × Value)), (∀ x ∈ r, x.1 ≠ q.1) → q ∈ l → (l.map (·.1)).Nodup → (l.reverse ++ r).lookup q.1 = some q.2 := by
    intro l
    induction l with
    | nil => intro r _ h; cases h
    | cons x t ih =>
      intro r hr hm hd
      rw [List.map_cons, List.nodup_cons] at hd
      rw [List.reverse_cons, List.append_assoc, List.singleton_append]
      rcases List.mem_cons.mp hm with rfl | hm'
      · have : ∀ y ∈ t.reverse, y.1 ≠ q.1 := fun y hy z => hd.1 (z ▸ List.mem_map_of_mem (f := (·.1)) (List.mem_reverse.mp hy))
        clear hd hm ih hr
        generalize t.reverse = tr at this
        induction tr with
        | nil => simp [List.lookup]
        | cons y z ih =>
          rw [List.cons_append, List.lookup_cons]
          have h1 := this y (.head _)
          rw [beq_eq_false_iff_ne.mpr (fun e => h1 e.symm)]
          exact ih fun y hy => this y (.tail _ hy)
      · refine ih (x :: r) (fun y hy => ?_) hm' hd.2
        rcases List.mem_cons.mp hy with rfl | hy
        · exact fun z => hd.1 (z ▸ List.mem_map_of_mem (f := (·.1)) hm')
        · exact hr y hy
  have := this l [] (fun x hx => by cases hx) hq hk
  simpa using this
noncomputable def BindR (K : Frag) (fd : FuncData) (names : List Str) : Prop := ∀ us : List Value, us.length = names.length → ∀ s : Shared, K.In s.heap → BindsTo s fd ⟨us, []⟩ (names.zip us)
structure Near (A A₁ : Around) : Prop where
  frames : A₁.frames = A.frames
  handled : A₁.handled = A.handled
  depth : A₁.depth ≤ A.depth + 4
  units : A₁.units ≤ A.units + 40
theorem Near.rfl {A : Around} : Near A A := ⟨Eq.refl _, Eq.refl _, Nat.le_add_right _ _, Nat.le_add_right _ _⟩
noncomputable abbrev Cx.inner (c : Cx) (A₁ : Around) (n : Nat) (m : Str → Option Value) (fix : List (Addr × Obj)) (env : Env) : Cx :=
  { w := c.w, H := c.H, n := n, A := A₁.deeper env, frames := env :: c.frames, fr := (c.L, m) :: c.fr, fix := fix, env := env }
theorem Cx.Ok.inner (C : c.Ok) {A₁ : Around} (N : Near c.A A₁) {n : Nat} (hn : c.n = n + 1) (S : Sim c loc σ h) {m : Str → Option Value} {env : Env} (hL : h.objs.size ≤ env.locals) (hk : env.scope.kind = .function) (hg : env.globals = mainGlobals) (hb : env.builtins = builtinsNs) (hf : env.frame = some env.locals)
    {fix : List (Addr × Obj)} (hx : ∀ p ∈ fix, p ∈ c.fix ∨ h.objs.size ≤ p.1 ∧ p.1 ≠ env.locals) : (c.inner A₁ n m fix env).Ok := by
  have sz : c.H.objs.size ≤ env.locals := Nat.le_trans (Nat.le_of_lt (S.size C)) hL
  have apL := S.apart C hL
  have hd := C.depth; have hu := C.units; have h1 := N.depth; have h2 := N.units
  refine ⟨C.st, ?_, ?_, ?_, hk, hg, hb, ?_, sz, ?_, ?_⟩
  · show A₁.frames.map _ = _
    rw [N.frames, C.frames]; rfl
  · show A₁.depth + 1 + 10 * n ≤ 900
    omega
  · show A₁.units + 3 + 100 * n ≤ 9000
    omega
  · intro e he
    rcases List.mem_cons.mp he with rfl | he
    · exact ⟨hk, _, hf, .inl rfl⟩
    · obtain ⟨k1, a, k2, k3⟩ := C.fre e he
      refine ⟨k1, a, k2, .inr ?_⟩
      rcases k3 with rfl | ⟨p, hp, rfl⟩
      · exact ⟨_, .head _, rfl⟩
      · exact ⟨p, .tail _ hp, rfl⟩
  · intro p hp
    rcases List.mem_cons.mp hp with rfl | hp
    · exact ⟨C.lo, fun z => apL.2.2.1 z.symm⟩
    · exact ⟨(C.frl p hp).1, apL.2.2.2.1 p hp⟩
  · intro p hp
    rcases hx p hp with hp | ⟨g1, g2⟩
    · refine ⟨apL.2.2.2.2 p hp, fun q hq => ?_⟩
      rcases List.mem_cons.mp hq with rfl | hq
      · exact fun z => (C.fxl p hp).1 z.symm
      · exact (C.fxl p hp).2 q hq
    · refine ⟨g2, fun q hq => ?_⟩
      have apP := S.apart C g1
      rcases List.mem_cons.mp hq with rfl | hq
      · exact fun z => apP.2.2.1 z.symm
      · exact apP.2.2.2.1 q hq
theorem Sim.enter (S : Sim c loc σ h) (k : ∀ b o, h.get? b = some o → h'.get? b = some o) {A₁ : Around} {n : Nat} {m m' : Str → Option Value} (hm : h.Ns c.L m) {env : Env} {loc' : Loc} (hL : h.objs.size ≤ env.locals) (hn : h'.Ns env.locals m') (hl : ∀ p ∈ loc', ∃ u, m' p.1 = some u ∧ er u = p.2)
    {fix : List (Addr × Obj)} (hx : ∀ p ∈ fix, p ∈ c.fix ∨ h.objs.size ≤ p.1 ∧ h'.get? p.1 = some p.2) : Sim (c.inner A₁ n m fix env) loc' σ h' := by
  have S' := S.grow k
  refine ⟨S'.keep, ⟨m', hn, hl⟩, fun p hp => ?_, fun p hp => (hx p hp).elim (S'.fx p) (·.2), fun b o q => ?_⟩
  · rcases List.mem_cons.mp hp with rfl | hp
    · exact hm.keeps k
    · exact S'.outs p hp
  · obtain ⟨x, y, z, z', ob, u, v⟩ := S'.hr b o q
    have lt : b < h.objs.size := by obtain ⟨_, _, _, _, ob, u, _⟩ := S.hr b o q; exact Heap.lt_size u
    refine ⟨x, fun e => ?_, fun p hp => ?_, fun p hp => ?_, ob, u, v⟩
    · rw [e] at lt
      exact absurd lt (Nat.not_lt.mpr hL)
    · rcases List.mem_cons.mp hp with rfl | hp
      · exact fun e => y e.symm
      · exact z p hp
    · rcases hx p hp with hp | ⟨g, _⟩
      · exact z' p hp
      · intro e; rw [e] at g; exact absurd lt (Nat.not_lt.mpr g)
theorem Sim.leave {A₁ : Around} {n : Nat} {m : Str → Option Value} {env : Env} {loc' : Loc} {fix : List (Addr × Obj)} (S : Sim (c.inner A₁ n m fix env) loc' σ h) (hf : ∀ p ∈ c.fix, p ∈ fix) (hl : ∀ p ∈ loc, ∃ u, m p.1 = some u ∧ er u = p.2) : Sim c loc σ h :=
  ⟨S.keep, ⟨m, S.outs _ (.head _), hl⟩, fun p hp => S.outs p (.tail _ hp), fun p hp => S.fx p (hf p hp), fun b o q => let ⟨x, y, z, z', r⟩ := S.hr b o q; ⟨x, fun e => z (c.L, m) (.head _) e.symm, fun p hp => z p (.tail _ hp), fun p hp => z' p (hf p hp), r⟩⟩
theorem Apart.leave {A₁ : Around} {n : Nat} {m : Str → Option Value} {env : Env} {fix : List (Addr × Obj)} (p : Apart (c.inner A₁ n m fix env) σ a) (hf : ∀ p ∈ c.fix, p ∈ fix) : Apart c σ a :=
  ⟨p.1, p.2.1, fun e => p.2.2.2.1 (c.L, m) (.head _) e.symm, fun q hq => p.2.2.2.1 q (.tail _ hq), fun q hq => p.2.2.2.2 q (hf q hq)⟩
theorem Thrown.leave {A₁ : Around} {n : Nat} {m : Str → Option Value} {env : Env} {fix : List (Addr × Obj)} {told : MV} {lx : Loc} (T : Thrown (c.inner A₁ n m fix env) lx σ told a h) (hf : ∀ p ∈ c.fix, p ∈ fix) (hl : ∀ p ∈ loc, ∃ u, m p.1 = some u ∧ er u = p.2) : Thrown c loc σ told a h :=
  ⟨T.sim.leave hf hl, T.ap.leave hf, let ⟨ed, h1, h2⟩ := T.ex; ⟨ed, h1, h2.imp id fun ⟨T, x, y⟩ => ⟨T, x.leave hf, y⟩⟩⟩
theorem call_raw (C : c.Ok) {A₁ : Around} (N : Near c.A A₁) {n : Nat} (hn : c.n = n + 1) {s : Shared} (S : Sim c loc σ s.heap) {R : Result → Shared → Prop} {f : Addr} {us : List Value} {vs : List MV} (hus : us.map er = vs)
    {name qual : Str} {params : Arguments} {body : List Stmt} {scope : Scope} {dV kV doc pm cdv ct oc : Value} {an od : Option Addr} {osl : Array (Option Value)} {names : List Str}
    (ho : (K c.w.params).lookup f = some ⟨oc, od, .func (fnOf name qual params body scope dV kV doc pm an cdv ct), osl⟩) (hcd : codeIn (K c.w.params) cdv qual = true)
    (hb : BindR (K c.w.params) (fnOf name qual params body scope dV kV doc pm an cdv ct) names) (hz : vs.length = names.length) (hnd : names.Nodup) (hloc : names.all (fun y => scope.names.lookup y == some .local) = true)
    (hco : scope.isCoroutine = false) (hgen : scope.isGenerator = false) (hk : scope.kind = .function) (hcell : scope.names.all (fun x => x.2 != .cell) = true)
    (h : ∀ H n' A frames fr fix L, n' = n → A.handled = c.A.handled → let c' : Cx := ⟨c.w, H, n', A, frames, fr, fix, envOf qual scope L f cdv⟩; c'.Ok → c'.Fun → WS c' (names.zip vs) σ body (fun fl _ σ' => Q (retOf fl) σ') X)
    (hR : ∀ v σ' s', Steps s s' → Sim c loc σ' s'.heap → Q (er v) σ' → R (.ok (.ret v)) s') (hE : ∀ e s', Exc c loc X s e s' → R (.error e) s') : codeAny c.M A₁ (.call (.ref f) ⟨us, []⟩) R s := by
  have Kn := (S.st C).k
  obtain ⟨m, hm, hl⟩ := S.ns
  have hlen : us.length = names.length := by rw [← hz, ← hus, List.length_map]
  have hd := C.depth; have h1 := N.depth
  refine codeAny_call_def (fd := fnOf name qual params body scope dV kV doc pm an cdv ct) (body := body) (binds := names.zip us) (by show A₁.depth < 1000; omega) (Kn _ _ ho) rfl (S.st C).nl (codeRec_of Kn hcd) rfl (hb us hlen s Kn) ?_ ?_ (fun h₀ hns hkeep => ?_) hco hgen hk
  · intro x hx
    have := List.all_eq_true.mp hcell x hx
    simpa using this
  · intro x hx
    have := List.all_eq_true.mp hloc x.1 (List.of_mem_zip hx).1
    simpa using this
  · have S' : Sim (c.inner A₁ n m c.fix (envOf qual scope s.heap.objs.size f cdv)) (names.zip vs) σ h₀ := S.enter hkeep hm (Nat.le_refl _) hns (zip_lookup hus hnd) fun p hp => .inl hp
    have C' : (c.inner A₁ n m c.fix (envOf qual scope s.heap.objs.size f cdv)).Ok := C.inner N hn S (Nat.le_refl _) hk rfl rfl rfl fun p hp => .inl hp
    have F' : (c.inner A₁ n m c.fix (envOf qual scope s.heap.objs.size f cdv)).Fun := ⟨rfl, _, rfl⟩
    have main := h c.H n (A₁.deeper (envOf qual scope s.heap.objs.size f cdv)) (envOf qual scope s.heap.objs.size f cdv :: c.frames) ((c.L, m) :: c.fr) c.fix s.heap.objs.size rfl N.handled C' F'
    have st : Steps s { s with heap := h₀, toks := s.toks + (names.zip us).length } := Steps.rfl.to _ _
    refine wpAny_mono (main.use (R := fun fl s' => R (.ok (.ret (match fl with | .ret v => v | _ => .none))) s') st S' fun fl loc' σ' s' st' S'' q => hR _ σ' s' st' (S''.leave (fun _ h => h) hl) (by rw [retOf_er]; exact q)) (fun _ _ z => z) fun e s' ⟨h', k, σ', told, a, e1, e2, T, x⟩ => ?_
    subst e1 e2
    exact leaving_ok C' F' T fun h'' T' => hE _ _ ⟨h'', k, σ', told, a, rfl, rfl, T'.leave (fun _ h => h) hl, x⟩
theorem c_def (C : c.Ok) {n : Nat} (hn : c.n = n + 1) {f : Addr} {vs : List MV}
    {name qual : Str} {params : Arguments} {body : List Stmt} {scope : Scope} {dV kV doc pm cdv ct oc : Value} {an od : Option Addr} {osl : Array (Option Value)} {names : List Str}
    (ho : (K c.w.params).lookup f = some ⟨oc, od, .func (fnOf name qual params body scope dV kV doc pm an cdv ct), osl⟩) (hcd : codeIn (K c.w.params) cdv qual = true)
    (hb : BindR (K c.w.params) (fnOf name qual params body scope dV kV doc pm an cdv ct) names) (hz : vs.length = names.length) (hnd : names.Nodup) (hloc : names.all (fun y => scope.names.lookup y == some .local) = true)
    (hco : scope.isCoroutine = false) (hgen : scope.isGenerator = false) (hk : scope.kind = .function) (hcell : scope.names.all (fun x => x.2 != .cell) = true)
    (h : ∀ H n' A frames fr fix L, n' = n → A.handled = c.A.handled → let c' : Cx := ⟨c.w, H, n', A, frames, fr, fix, envOf qual scope L f cdv⟩; c'.Ok → c'.Fun → WS c' (names.zip vs) σ body (fun fl _ σ' => Q (retOf fl) σ') X) : CallR c loc σ (.ref f) vs Q X := fun u us hu hus s hs => by
  rw [er_ref hu]
  exact wpAny_call (call_raw C .rfl hn hs hus ho hcd hb hz hnd hloc hco hgen hk hcell h (fun v σ' s' st S q => .of st S q) fun e s' x => x)
end
end
end Mine
end
section
set_option maxHeartbeats 400000
namespace Mine
noncomputable section
noncomputable def bmE : List Value := [.ref 39, .type "Exception", .type "BaseException", .type "object"]
noncomputable abbrev clsE : Obj := excClassObj (S "PsError") (S "PsError") 52 51 [.ref 39] bmE true [] [] false none none (some (.ref 43)) none (some (.str (S "PsError") 225)) (some (.str (S "PsError") 233)) (some (.bool true)) "Exception.__new__"
theorem cls_at (P : Params) : (K P).lookup 52 = some clsE := by kernel_rfl
theorem init_in (P : Params) : findIn (K P) (.ref 52) "__init__" = some (some (.ref 36)) := by kernel_rfl
theorem fn36 (P : Params) : typeIn (K P) (.ref 36) = some (.type "function") := by kernel_rfl
noncomputable def rawE (t : Addr) (d : Option Addr) : Obj := ⟨.ref 52, d, .fields #[.ref t, .none, .none, .none, .bool false, .none], #[]⟩
section
variable {prog : Program} {w : World} {A : Around} {R : Result → Shared → Prop} {E : Value → Shared → Prop} {h : Heap} {g : Array GenState} {d : Drawn} {t : Nat} {os : OsState}
noncomputable abbrev FE := PySem.F.excBase_Exception
theorem check_new {M : Model} {rest : List Value} {Q : Unit → Shared → Prop} (hC : h.get? 52 = some clsE) (hq : Q () ⟨h, g, d, t, os⟩) : wpAny M A (checkBuiltinCall "Exception.__new__" ⟨.ref 52 :: rest, []⟩) Q E ⟨h, g, d, t, os⟩ := by
  have hcont : (Value.ref 52 :: bmE).contains (.type "Exception") = true := by decide
  have hstar := FE.noStar
  simp only [checkBuiltinCall, FE.newKind, FE.newSplit, FE.newRow]
  repeat (first | refine wpAny_loadPart_at hC ?_ | (refine wpAny_isSubtype_exc hC ?_; rw [hcont]) | refine wpAny_staticBase_exc hC ?_ | refine wpAny_madeBy_exc hC ?_ | simp only [bne_self_eq_false, Bool.false_eq_true, if_false] | wp_step)
  exact hq
theorem exc_new {rest : List Value} (hC : h.get? 52 = some clsE)
    (hq : R (.ok (.ret (.ref (h.objs.size + 1)))) ⟨(h.push { cls := .type "tuple", data := .seq rest.toArray }).push (rawE h.objs.size none), g, d, t, os⟩) (hrest : rest.length ≤ sizeLine) :
    codeAny (model prog w) A (.builtin "Exception.__new__" ⟨.ref 52 :: rest, []⟩) R ⟨h, g, d, t, os⟩ := by
  have hends := FE.ends
  have hcB : (Value.ref 52 :: bmE).contains (.type "Exception") = true := by decide
  have hcA : (Value.ref 52 :: bmE).contains (.type "AttributeError") = false := by decide
  have hcN : (Value.ref 52 :: bmE).contains (.type "NameError") = false := by decide
  refine codeAny_builtinAt FE.entry ?_
  unfold Builtin.«BaseException.__new__»
  refine PySem.wpAt_bind ?_
  show PySem.wpAt _ _ _ (stack >>= _) _ _ _
  refine PySem.wpAt_bind (PySem.wpAt_stack fun p below => PySem.wpAt_of_wpAny ?_)
  wp_walk
  refine PySem.wpAt_of_wpAny ?_
  rw [FE.owner]
  repeat (first | with_reducible refine wpAny_madeHere_exc FE.canon hC ?_ | with_reducible refine wpAny_loadPart_at hC ?_ | (with_reducible refine wpAny_isSubtype_exc hC ?_; first | rw [hcB] | rw [hcA] | rw [hcN]) | wp_step)
  show R _ _
  rw [Heap.size_push]
  exact hq
noncomputable def mkE (h : Heap) (v : Value) : Heap := (h.push { cls := .type "tuple", data := .seq [v].toArray }).push (rawE h.objs.size none)
theorem mkE_keeps (h : Heap) (v : Value) : ∀ b o, h.get? b = some o → (mkE h v).get? b = some o := fun b o e => Heap.get?_push_of_some _ (Heap.get?_push_of_some _ e)
theorem type_call {w : World} {v : Value} {Q : Fin → Shared → Prop} (X : (K w.params).In h)
    (hq : wpAny (model pw w) A (call (.ref 36) [.ref (h.objs.size + 1), v]) (fun r s' => r = .none ∧ Q (.done (.ret (.ref (h.objs.size + 1)))) s') E ⟨mkE h v, g, d, t, os⟩) :
    wpAny (model pw w) A (Builtin.«type.__call__» ⟨[.ref 52, v], []⟩) Q E ⟨h, g, d, t, os⟩ := by
  have hC := X _ _ (cls_at w.params)
  repeat (first | with_reducible refine wpAny_loadPart_at hC ?_ | with_reducible refine wpAny_madeBy_exc hC ?_ | wp_step)
  refine codeAny_call_builtin_code (Code.quiet_builtin _ FE.quiet) (check_new hC ?_)
  refine exc_new (rest := [v]) hC ?_ (show 1 ≤ sizeLine by rw [sizeLine_eq]; decide)
  show wpAny _ _ _ _ _ _
  have X' : (K w.params).In (mkE h v) := X.keeps (mkE_keeps h v)
  have hC₁ := X' _ _ (cls_at w.params)
  have hget : (mkE h v).get? (h.objs.size + 1) = some (rawE h.objs.size none) := by unfold mkE; exact Heap.get?_push_at (by rw [Heap.size_push]) rfl
  unfold rawE at hget
  have hcC : (Value.ref 52 :: bmE).contains (.ref 52) = true := by decide
  unfold isInstance
  show wpAny _ _ _ _ _ ⟨mkE h v, _, _, _, _⟩
  repeat (first | with_reducible refine wpAny_loadPart_at hget ?_ | (with_reducible refine wpAny_isSubtype_exc hC₁ ?_; rw [hcC]) | wp_step)
  show wpAny _ _ (typeLookup (.ref 52) _) _ _ _
  refine (looks_findIn X' (init_in _)).here ?_
  refine wpAny_holding (wpAny_bind ?_)
  unfold bindSpecial
  refine wpAny_bind ((looks_typeIn X' (fn36 _)).here ?_)
  rw [if_pos (by decide)]
  refine wpAny_pure (wpAny_bind (wpAny_mono hq (fun r s' hr => ?_) fun _ _ x => x))
  obtain ⟨rfl, hQ⟩ := hr
  wp_walk
  exact hQ
theorem call_E {w : World} {v : Value} {Q : Value → Shared → Prop} (X : (K w.params).In h)
    (hq : wpAny (model pw w) (A.under (.builtin "type.__call__" ⟨[.ref 52, v], []⟩)) (call (.ref 36) [.ref (h.objs.size + 1), v]) (fun r s' => r = .none ∧ Q (.ref (h.objs.size + 1)) s') E ⟨mkE h v, g, d, t, os⟩) :
    wpAny (model pw w) A (call (.ref 52) [v]) Q E ⟨h, g, d, t, os⟩ := by
  have hC := X _ _ (cls_at w.params)
  have f1 := tc_lookup
  have f2 := tc_bind (.ref 52)
  have hT : (⟨h, g, d, t, os⟩ : Shared).TypeIs (.ref 52) "type" := ⟨_, hC, rfl⟩
  refine wpAny_call (codeAny_of_tree ?_)
  show wpAny _ _ (callAny (.ref 52) _) _ _ _
  repeat (any_goals (first | assumption | with_reducible refine wpAny_loadPart_at hC ?_ | wp_step))
  refine ⟨rfl, ?_⟩
  refine codeAny_call_builtin_at (Code.quiet_builtin _ (by decide +kernel)) entry_typeCall (wpAny_check_type_call_sub hC (type_call X ?_))
  exact hq
theorem raise_E {M : Model} {w : World} {env : Env} {x : Sem Value} {s : Shared} {Q : Flow → Shared → Prop} (hh : A.handled = none)
    (h : wpAny M A x (fun v s₁ => ∃ e t ed, v = .ref e ∧ (K w.params).In s₁.heap ∧ s₁.heap.get? e = some (rawE t (some ed)) ∧ E (.ref e) s₁) E s) :
    wpAny M A (raiseStmt env (some x) none) Q E s := by
  have hcB : (Value.ref 52 :: bmE).contains (.type "BaseException") = true := by decide
  unfold raiseStmt
  refine wpAny_bind (wpAny_mono h (fun v s₁ h₁ => ?_) fun _ _ x => x)
  obtain ⟨e, t, ed, rfl, X, he, hE⟩ := h₁
  have hC := X _ _ (cls_at w.params)
  obtain ⟨hp, g, d, tk, os⟩ := s₁
  unfold rawE at he
  repeat (first | with_reducible refine wpAny_loadPart_at he ?_ | with_reducible refine wpAny_loadPart_at hC ?_ | (with_reducible refine wpAny_isSubtype_exc hC ?_; rw [hcB]) | wp_step)
  exact wpAny_raiseNew_none hh hE
end
end
end Mine
end
section
set_option maxHeartbeats 400000
namespace Mine
noncomputable section
section
variable {w : World} {A : Around} {E : Value → Shared → Prop}
theorem over_E (self : Value) : refuseLoop self "__setattr__" [.ref 52, .ref 39, .type "Exception", .type "BaseException", .type "object"] = pure () := by
  rw [refuseLoop_ref, refuseLoop_ref]
  exact PySem.F.store_Exception.passes self
theorem clsIn_E (P : Params) : ∃ cd, clsIn (K P) 52 = some cd ∧ cd.hasDict = true ∧ cd.mro = [.ref 52, .ref 39, .type "Exception", .type "BaseException", .type "object"] := ⟨_, rfl, rfl, rfl⟩
theorem set_in (P : Params) : findIn (K P) (.ref 52) "__setattr__" = some (some (.builtin "object.__setattr__")) := by kernel_rfl
theorem told_in (P : Params) : findIn (K P) (.ref 52) "told" = some none := by kernel_rfl
theorem base_E (P : Params) : mroIn (K P) 52 (.type "object") = some true := by kernel_rfl
theorem setE {s : Shared} {e t : Addr} {v : Value} {Q : Unit → Shared → Prop} (X : (K w.params).In s.heap) (he : s.heap.get? e = some (rawE t none))
    (h : ∀ h' k, (∀ b o, b ≠ e → s.heap.get? b = some o → h'.get? b = some o) → h'.get? e = some (rawE t (some s.heap.objs.size)) → (∃ ob, h'.get? s.heap.objs.size = some ob ∧ Rep w (.sd [(S "told", er v)]) ob) → Q () { s with heap := h', toks := k }) : wpAny (model pw w) A (setAttr (.ref e) "told" v) Q E s := by
  have I : InstAt s.heap e (rawE t none) 52 none := ⟨he, rfl, rfl, trivial⟩
  refine set_plain X I (set_in _) ?_
  have SF := PySem.F.store_object
  obtain ⟨cd, hc, hdct, hmro⟩ := clsIn_E w.params
  have sub : Looks (model pw w) s.heap (isInstance (.ref e) (.type "object")) true := I.type.andThen (looks_mroIn X (base_E _))
  have hm : Looks (model pw w) s.heap (mroOf (.ref 52)) cd.mro := (looks_clsIn X hc).andThen .now
  refine codeAny_call_builtin SF.slot.plain SF.entry (@check_slot (model pw w) _ _ { s with toks := s.toks + 1 } "object.__setattr__" "object" "__setattr__" (.ref e) [.str "told" s.toks, v] [] _ SF.kind SF.split sub (SF.args (.ref e) (.str "told" s.toks) v) ?_)
  rw [osa_eq, refuse_eq]
  refine wpAny_bind (wpAny_bind (Looks.here (s := { s with toks := s.toks + 1 }) I.type (wpAny_bind (Looks.here (s := { s with toks := s.toks + 1 }) hm ?_))))
  rw [hmro, over_E]
  refine wpAny_pure (wpAny_bind (Looks.here (s := { s with toks := s.toks + 1 }) I.type (wpAny_bind (Looks.here (s := { s with toks := s.toks + 1 }) (looks_findIn X (told_in _)) (wpAny_bind (wpAny_pure ?_))))))
  dsimp only
  refine wpAny_bind (wpAny_pure (wpAny_bind (wpAny_bind (wpAny_loadPart (s := { s with toks := s.toks + 1 }) he (wpAny_bind (Looks.here (s := { s with toks := s.toks + 1 }) (looks_clsIn X hc) ?_))))))
  rw [hdct]
  have hne : s.heap.objs.size ≠ e := fun z => by have := Heap.lt_size he; rw [← z] at this; exact absurd this (Nat.lt_irrefl _)
  have he₁ : (s.heap.push { cls := .type "dict", data := .dict #[] }).get? e = some (rawE t none) := Heap.get?_push_of_some _ he
  refine wpAny_bind (wpAny_alloc (wpAny_bind (wpAny_update he₁ ?_)))
  refine wpAny_pure (a := some s.heap.objs.size) ?_
  dsimp only
  have D : ((s.heap.push { cls := .type "dict", data := .dict #[] }).update e fun o => { cls := o.cls, dict := some s.heap.objs.size, data := o.data, slots := o.slots }).get? s.heap.objs.size = some (dictOf [] 0) :=
    (Heap.get?_update_ne _ _ _ _ hne).trans (Heap.get?_push_size _ rfl)
  have E1 : ((s.heap.push { cls := .type "dict", data := .dict #[] }).update e fun o => { cls := o.cls, dict := some s.heap.objs.size, data := o.data, slots := o.slots }).get? e = some (rawE t (some s.heap.objs.size)) :=
    Heap.get?_update_self _ he₁ rfl
  have hf : Obj.putName (S "told") (PyData.keyHash w.params "told") (.str "told" (s.toks + 1)) v (dictOf [] 0) = dictOf (putL "told" (PyData.keyHash w.params "told") (.str "told" (s.toks + 1)) v []) (putN "told" [] 0) := putName_dict _ _ _ _ _ _
  have D' := (Heap.get?_update_self (Obj.putName (S "told") (PyData.keyHash w.params "told") (.str "told" (s.toks + 1)) v) D (by rw [hf]; rfl)).trans (congrArg some hf)
  refine wpAny_bind (wpAny_pure (wpAny_bind ?_))
  unfold nsSet
  refine wpAny_bind (wpAny_bind (wpAny_askSetting (wpAny_pure (wpAny_bind (wpAny_mkText (wpAny_bind (wpAny_loadPart D ?_)))))))
  dsimp only [dictOf]
  rw [aRefKeyMayBeTheName_at, show ((!([] : List DictEntry).toArray.any (·.key.isStr (S "told")) && ([] : List DictEntry).toArray.any (·.refKey)) = false) from by simp]
  refine wpAny_updatePart D ?_
  refine wpAny_bind (wpAny_lookBehind D' (pastItsLine_dict (by rw [List.size_toArray, sizeLine_eq]; exact Nat.le_trans putL_length (by decide))) ?_)
  refine wpAny_pure (h _ _ (fun b o hb q => ?_) ((Heap.get?_update_ne _ _ _ _ hne.symm).trans E1) ⟨_, D', [(S "told", v)], ⟨_, _, ⟨rfl, rfl, rfl⟩, rfl, ?_, ?_, ?_⟩, rfl⟩)
  · have hb' : b ≠ s.heap.objs.size := Nat.ne_of_lt (Heap.lt_size q)
    exact (Heap.get?_update_ne _ _ _ _ hb').trans ((Heap.get?_update_ne _ _ _ _ hb).trans (Heap.get?_push_of_some _ q))
  · exact putL_keys (l := []) (fun e he => by simp at he)
  · exact .cons (strKind_is _ _ _ _) rfl .nil
  · simp
end
section
variable {c : Cx} {loc : Loc} {σ : MHeap} {α β : Type} {X : MV → MHeap → Prop} {Q : MV → MHeap → Prop} {h h' : Heap} {a d : Addr} {Kt : MF → Loc → MHeap → Prop}
theorem ns_at {L : Addr} {m : Str → Option Value} (n : h.Ns L m) (k : ∀ o, h.get? L = some o → h'.get? L = some o) : h'.Ns L m := let ⟨o, es, ep, e, r⟩ := n; ⟨o, es, ep, k _ e, r⟩
theorem a_setE (C : c.Ok) {e t : Addr} {v : MV} (q : σ e = some (.raw (rawE t none))) {Q : Unit → MHeap → Prop} (k : ∀ d, σ d = none → Q () (upd (upd σ d (.sd [(S "told", v)])) e (.raw (rawE t (some d)))))
    {ou vu : Value} (ho : er ou = .ref e) (hv : er vu = v) : WT c loc σ (setAttr ou "told" vu) Q X := fun s hs => by
  rw [er_ref ho]
  obtain ⟨e1, e2, e3, e4, _, he, rfl⟩ := hs.hr _ _ q
  refine setE (hs.st C).k he fun h' tk k1 k2 ⟨ob, k3, r⟩ => .at ?_ (k _ (hs.fresh (Nat.le_refl _)))
  refine ⟨fun b o z => k1 b o (fun e => ?_) (hs.keep b o z), ?_, fun p hp => ns_at (hs.outs p hp) fun o => k1 _ o (e3 p hp), fun p hp => k1 _ _ (e4 p hp) (hs.fx p hp), fun b o z => ?_⟩
  · rw [e, get_none_ge e1] at z; cases z
  · obtain ⟨m, x, y⟩ := hs.ns; exact ⟨m, ns_at x fun o => k1 _ o e2.symm, y⟩
  · by_cases hb : b = e
    · subst hb
      rw [upd_self] at z; cases z
      exact ⟨e1, e2, e3, e4, _, k2, rfl⟩
    · rw [upd_ne hb] at z
      by_cases hd : b = s.heap.objs.size
      · subst hd
        rw [upd_self] at z; cases z
        have ap := hs.apart C (Nat.le_refl s.heap.objs.size)
        exact ⟨ap.1, ap.2.2.1, ap.2.2.2.1, ap.2.2.2.2, ob, k3, hv ▸ r⟩
      · rw [upd_ne hd] at z
        obtain ⟨x, y, z1, z2, ob', u, v'⟩ := hs.hr b o z
        exact ⟨x, y, z1, z2, ob', k1 b ob' hb u, v'⟩
noncomputable def fbody (st : Stmt) : List Stmt := match st with | .FunctionDef _ _ b .. => b | _ => []
noncomputable def fargs (st : Stmt) : Arguments := match st with | .FunctionDef _ a .. => a | _ => default
noncomputable def fscope (st : Stmt) : Scope := match st with | .FunctionDef _ _ _ _ _ _ sc _ _ _ => sc | _ => default
noncomputable def fname (st : Stmt) : Str := match st with | .FunctionDef n .. => n | _ => default
noncomputable def fobj (st : Stmt) (qual : Str) (dV pm : Value) (code : Addr) : Obj := ob (.type "function") (.func (fnOf (fname st) qual (fargs st) (fbody st) (fscope st) dV .none .none pm none (.ref code) .none))
theorem bind36 (P : Params) : BindR (K P) (fnOf (fname (mdef 2 0)) (S "PostError.__init__") (fargs (mdef 2 0)) (fbody (mdef 2 0)) (fscope (mdef 2 0)) (.ref 29) .none .none (.str (S "postcore.base") 194) none (.ref 35) .none) [S "self", S "told"] := fun us e s k => by
  match us, e with
  | [u1, u2], _ => exact binds_K (T := 29) (o := ob (.type "tuple") (.seq #[.none] 0)) k rfl (by kernel_rfl) rfl rfl rfl
end
end
end Mine
end
section
set_option maxHeartbeats 400000
namespace Mine
noncomputable section
section
variable {c : Cx} {loc : Loc} {σ : MHeap} {α β : Type} {X : MV → MHeap → Prop} {Q : MV → MHeap → Prop} {h h' : Heap} {a d : Addr} {Kt : MF → Loc → MHeap → Prop}
theorem init36 (H : Heap) (n' : Nat) (A : Around) (frames : List Env) (fr : List (Addr × (Str → Option Value))) (fix : List (Addr × Obj)) (L : Addr) {w : World} {e t : Addr} {v : MV} {σ : MHeap} {Q : MV → MHeap → Prop} {X : MV → MHeap → Prop}
    (C : (⟨w, H, n', A, frames, fr, fix, envOf (S "PostError.__init__") (fscope (mdef 2 0)) L 36 (.ref 35)⟩ : Cx).Ok) (q : σ e = some (.raw (rawE t none))) (k : ∀ d, σ d = none → Q .none (upd (upd σ d (.sd [(S "told", v)])) e (.raw (rawE t (some d))))) :
    WS ⟨w, H, n', A, frames, fr, fix, envOf (S "PostError.__init__") (fscope (mdef 2 0)) L 36 (.ref 35)⟩ [(S "self", .ref e), (S "told", v)] σ (fbody (mdef 2 0)) (fun fl _ σ' => Q (retOf fl) σ') X := by
  refine S_cons (S_setattr ?_ (by kernel_rfl))
  refine E_local C (.tail .head) ?_ (by kernel_rfl) (by kernel_rfl)
  refine E_local C .head ?_ (by kernel_rfl) (by kernel_rfl)
  intro ou vu ho hv
  refine a_setE C q (fun d hd => ?_) ho hv
  exact S_nil (k d hd)
theorem near_in1 (A : Around) : Near A A.in1 := ⟨rfl, rfl, Nat.le_add_right _ _, by show A.units + 1 ≤ A.units + 40; omega⟩
theorem near_type (A : Around) (C : Addr) (v : List Value) : Near A (A.under (.builtin "type.__call__" ⟨.ref C :: v, []⟩)) := by
  refine ⟨rfl, rfl, ?_, ?_⟩
  · rw [depth_under_make]; omega
  · show A.units + 1 ≤ A.units + 40
    omega
theorem c_E (C : c.Ok) {n : Nat} (hn : c.n = n + 1) {v : MV} (k : ∀ a d t, σ a = none → σ d = none → a ≠ d → Q (.ref a) (upd (upd σ d (.sd [(S "told", v)])) a (.raw (rawE t (some d))))) : CallR c loc σ (.ref 52) [v] Q X := fun u us hu hus s hs => by
  obtain ⟨vv, rfl, hv⟩ := of1 hus
  rw [er_ref hu]
  have S₁ : Sim c loc σ (s.heap.push { cls := .type "tuple", data := .seq [vv].toArray }) := hs.grow fun _ _ e => Heap.get?_push_of_some _ e
  have S₂ : Sim c loc (upd σ (s.heap.objs.size + 1) (.raw (rawE s.heap.objs.size none))) (mkE s.heap vv) := by
    have := S₁.push (ob := rawE s.heap.objs.size none) (o := .raw (rawE s.heap.objs.size none)) C rfl rfl
    rw [Heap.size_push] at this
    exact this
  have hfr := hs.fresh (Nat.le_succ s.heap.objs.size)
  have hC := (hs.st C).k
  obtain ⟨hp, g, dr, tk, os⟩ := s
  refine call_E hC ?_
  have st : Steps ⟨hp, g, dr, tk, os⟩ ⟨mkE hp vv, g, dr, tk, os⟩ := ⟨_, _, rfl⟩
  refine wpAny_call (call_raw (s := ⟨mkE hp vv, g, dr, tk, os⟩) (Q := fun r σ' => r = .none ∧ Q (.ref (hp.objs.size + 1)) σ') C (near_type c.A 52 [vv]) hn S₂ (vs := [.ref (hp.objs.size + 1), v]) (by rw [List.map_cons, List.map_cons, hv]; rfl) (name := fname (mdef 2 0)) (qual := S "PostError.__init__") (params := fargs (mdef 2 0)) (body := fbody (mdef 2 0)) (scope := fscope (mdef 2 0)) (dV := .ref 29) (kV := .none) (doc := .none) (pm := .str (S "postcore.base") 194) (cdv := .ref 35) (ct := .none) (oc := .type "function") (an := none) (od := none) (osl := #[]) (names := [S "self", S "told"])
    (by kernel_rfl) (by kernel_rfl) (bind36 _) rfl (by decide +kernel) (by kernel_rfl) (by kernel_rfl) (by kernel_rfl) (by kernel_rfl) (by kernel_rfl) (fun H n' A frames fr fix L _ _ C' _ => ?_) (fun r σ' s' st' S' q => ?_) fun e s' x => Exc.step st x)
  · refine init36 (Q := fun r σ' => r = .none ∧ Q (.ref (hp.objs.size + 1)) σ') H n' A frames fr fix L C' (upd_self _ _ _) fun d hd => ⟨rfl, ?_⟩
    have hne : d ≠ hp.objs.size + 1 := fun e => by rw [e, upd_self] at hd; cases hd
    have hd' : σ d = none := by rw [upd_ne hne] at hd; exact hd
    have := k _ d hp.objs.size hfr hd' hne.symm
    have e : upd (upd (upd σ (hp.objs.size + 1) (.raw (rawE hp.objs.size none))) d (.sd [(S "told", v)])) (hp.objs.size + 1) (.raw (rawE hp.objs.size (some d))) = upd (upd σ d (.sd [(S "told", v)])) (hp.objs.size + 1) (.raw (rawE hp.objs.size (some d))) := by
      funext b
      unfold upd
      by_cases h1 : b = hp.objs.size + 1
      · rw [if_pos h1, if_pos h1]
      · rw [if_neg h1, if_neg h1]
        by_cases h2 : b = d
        · rw [if_pos h2, if_neg h1]
        · rw [if_neg h2, if_neg h1]
    rw [e]; exact this
  · exact ⟨er_none q.1, .of (st.trans st') S' q.2⟩
theorem S_raise (C : c.Ok) {n : Nat} (hn : c.n = n + 1) (H : c.A.handled = none) {np cpos pos : Pos} {e : Expr} (h : WE c loc σ (eval e c.env) (fun v σ' => ∀ d, σ' d = none → X v (upd σ' d (.sd [(S "told", v)]))) X)
    (hl : c.env.kindOf "PsError" = some .globalImplicit) (hp : (backTo cpos (starEach [e] c.env)).any (·.1) = false) (he : starEach [e] c.env = (false, eval e c.env) :: starEach [] c.env) : W1 c loc σ (.Raise (some (.Call (.Name "PsError" np) [e] [] cpos)) none pos) Kt X := fun s hs => by
  have main : WE c loc σ (eval (.Call (.Name "PsError" np) [e] [] cpos) c.env) (fun r σ' => ∃ a d t v σ'', r = .ref a ∧ a ≠ d ∧ σ'' a = none ∧ σ'' d = none ∧ σ' = upd (upd σ'' d (.sd [(S "told", v)])) a (.raw (rawE t (some d))) ∧ X v (upd σ'' d (.sd [(S "told", v)]))) X := by
    refine E_call C (E_global C (v := .ref 52) ⟨by kernel_rfl, Args_cons (h.mono (fun v σ' hv => Args_nil ?_) fun _ _ x => x) he⟩ (by kernel_rfl) hl (by kernel_rfl)) hp he
    exact c_E C hn fun a d t ha hd hne => ⟨a, d, t, er v, σ', rfl, hne, ha, hd, rfl, hv d hd⟩
  rw [arm_exec_Raise]
  refine wpAny_bind (wpAny_standAt ?_)
  refine raise_E (w := c.w) H (wpAny_bind (main.use .rfl hs fun r σ' s' st S' ⟨a, d, t, v, σ'', h1, hne, ha, hd, h4, hx⟩ => wpAny_bind (wpAny_standAt (wpAny_pure ?_))))
  subst h4
  obtain ⟨a1, a2, a3, a4, _, g, rfl⟩ := S'.hr a _ (upd_self _ _ _)
  refine ⟨a, t, d, er_ref h1, (S'.st C).k, g, ?_⟩
  obtain ⟨hh, tk, rfl⟩ := st
  have ha' : upd σ'' d (.sd [(S "told", v)]) a = none := by rw [upd_ne hne]; exact ha
  refine ⟨_, _, upd σ'' d (.sd [(S "told", v)]), v, a, rfl, rfl, ⟨(S'.weak (loc' := []) nofun).sub fun b o q => ?_, ⟨a1, ha', a2, a3, a4⟩, d, upd_self _ _ _, .inl ⟨t, #[], g⟩⟩, hx⟩
  rw [upd_ne]
  · exact q
  · intro z; rw [z, ha'] at q; cases q
end
end
end Mine
end
section
set_option maxHeartbeats 400000
namespace Mine
noncomputable section
section
variable {w : World} {A : Around} {E : Value → Shared → Prop}
theorem ga_in (P : Params) : findIn (K P) (.ref 52) "__getattribute__" = some (some (.builtin "BaseException.__getattribute__")) := by kernel_rfl
theorem gt_in (P : Params) : findIn (K P) (.ref 52) "__getattr__" = some none := by kernel_rfl
theorem hd_in (P : Params) : hasDictIn (K P) 52 = true := by kernel_rfl
theorem base_B (P : Params) : mroIn (K P) 52 (.type "BaseException") = some true := by kernel_rfl
theorem getE {s : Shared} {e : Addr} {oe od : Obj} {v : Value} {b : Bool} {Q : Value → Shared → Prop} (X : (K w.params).In s.heap) (I : InstAt s.heap e oe 52 (some od)) (hl : lookIn "told" od = some (some v)) (hh : handedIn v = true)
    (h : Q v { s with toks := s.toks + 1 }) : wpAny (model pw w) A (getAttr (.ref e) "told" b) Q E s := by
  obtain ⟨hp, g, d, t, os⟩ := s
  have L0 := I.type (M := model pw w)
  have L1 := looks_findIn (M := model pw w) X (ga_in _)
  have L2 := looks_findIn (M := model pw w) X (gt_in _)
  have L3 := looks_find (M := model pw w) X I (findObj_own (hd_in _) (told_in _) rfl hl)
  have sub : Looks (model pw w) hp (isInstance (.ref e) (.type "BaseException")) true := L0.andThen (looks_mroIn X (base_B _))
  unfold getAttr getAttrBy
  refine wpAny_bind (wpAny_mkText (wpAny_holding (wpAny_bind (L0.at (wpAny_bind (L1.at ?_))))))
  show wpAny _ _ (getAttrByItsOwn _ _ _ _ _ _) _ _ _
  unfold getAttrByItsOwn
  show wpAny _ _ (typeLookup (.ref 52) "__getattr__" >>= _) _ _ _
  refine wpAny_bind (L2.at (wpAny_bind (wpAny_attempt (wpAny_holding ?_))))
  show wpAny _ _ (callGetattribute _ _ _ _) _ _ _
  unfold callGetattribute
  rw [show (b && onTheHeap (Value.builtin "BaseException.__getattribute__")) = false by cases b <;> rfl, if_neg Bool.false_ne_true]
  unfold boundAndCalled
  rw [PySem.F.attrBase_Exception.ga.bind]
  refine wpAny_bind (wpAny_pure (wpAny_call ?_))
  have FA := PySem.F.attrBase_Exception.ga
  have hk : builtinKind "BaseException.__getattribute__" = some .slot := by decide +kernel
  have hsplit : splitId "BaseException.__getattribute__" = some ("BaseException", "__getattribute__") := by decide +kernel
  refine codeAny_call_builtin FA.plain F.entry_bexc_ga (@check_slot (model pw w) _ _ ⟨hp, g, d, t + 1, os⟩ "BaseException.__getattribute__" "BaseException" "__getattribute__" (.ref e) [.str "told" t] [] _ hk hsplit sub (F.args_bexc_ga _ _) ?_)
  refine wpAny_bind (wpAny_pure (wpAny_bind (wpAny_pure (wpAny_bind (L0.at (wpAny_bind (L3.at ?_)))))))
  refine wpAny_pure ?_
  show wpAny _ _ (handedOut v) _ _ _
  rw [handedOut_of hh]; exact wpAny_pure h
end
section
variable {c : Cx} {loc : Loc} {σ : MHeap} {α β : Type} {X : MV → MHeap → Prop} {Q : MV → MHeap → Prop} {h h' : Heap} {a d : Addr} {Kt : MF → Loc → MHeap → Prop}
theorem a_told (C : c.Ok) {x d : Addr} {v : MV} {b : Bool} (hx : σ x = some (.exc d)) (hd : σ d = some (.sd [(S "told", v)])) (hf : v.flat = true) (h : Q v σ) : Op1 c loc σ (fun u => getAttr u "told" b) (.ref x) (fun v σ => Q (er v) σ) X := fun u hu s hs => by
  rw [er_ref hu]
  obtain ⟨_, _, _, _, ox, hox, r1, r2, vs, r3⟩ := hs.hr _ _ hx
  obtain ⟨_, _, _, _, od, hod, R⟩ := hs.hr _ _ hd
  obtain ⟨l, ep, kvs, rfl, hp, he, hn⟩ := sd_at R
  obtain ⟨c0, d0, dt, sl⟩ := ox
  dsimp only at r1 r2 r3
  subst r1 r2 r3
  obtain ⟨u, hu1, hu2⟩ := valueAt_of (kvs := kvs) (k := S "told") (v := v) (by rw [he]; rfl)
  refine getE (od := dictOf l ep) (hs.st C).k ⟨hox, rfl, rfl, hod⟩ ((lookIn_dict (S "told") l ep).trans ((getL_pairs hp (S "told")).trans (congrArg some hu1))) (handed_of (by rw [hu2]; exact hf)) ?_
  exact .tok hs (by rw [hu2]; exact h)
theorem WT.free {t : Sem α} {Q₁ : α → MHeap → Prop} {R : α → Shared → Prop} {E : Value → Shared → Prop} {s : Shared} (h : WT c loc σ t Q₁ (fun _ _ => False)) (S : Sim c loc σ s.heap)
    (k : ∀ v σ' s', Steps s s' → Sim c loc σ' s'.heap → Q₁ v σ' → R v s') : wpAny c.M c.A t R E s :=
  wpAny_mono (h s S) (fun v s' ⟨h', k', σ', e, S', q⟩ => by subst e; exact k v σ' _ (Steps.rfl.to _ _) S' q) fun _ _ ⟨_, _, _, _, _, _, _, _, z⟩ => z.elim
theorem WL.free {t : Sem α} {Q₁ : α → Loc → MHeap → Prop} {R : α → Shared → Prop} {E : Value → Shared → Prop} {s : Shared} (h : WL c loc σ t Q₁ (fun _ _ => False)) (S : Sim c loc σ s.heap)
    (k : ∀ v loc' σ' s', Steps s s' → Sim c loc' σ' s'.heap → Q₁ v loc' σ' → R v s') : wpAny c.M c.A t R E s :=
  wpAny_mono (h s S) (fun v s' ⟨h', k', σ', loc', e, S', q⟩ => by subst e; exact k v loc' σ' _ (Steps.rfl.to _ _) S' q) fun _ _ ⟨_, _, _, _, _, _, _, _, z⟩ => z.elim
noncomputable abbrev Cx.at (c : Cx) (A : Around) : Cx := ⟨c.w, c.H, c.n, A, c.frames, c.fr, c.fix, c.env⟩
theorem Sim.at (S : Sim c loc σ h) (A : Around) : Sim (c.at A) loc σ h := ⟨S.keep, S.ns, S.outs, S.fx, S.hr⟩
theorem Sim.back {A : Around} (S : Sim (c.at A) loc σ h) : Sim c loc σ h := ⟨S.keep, S.ns, S.outs, S.fx, S.hr⟩
theorem Cx.Ok.at (C : c.Ok) (e : Value) : (c.at (c.A.mark (some e))).Ok := ⟨C.st, C.frames, C.depth, C.units, C.kind, C.glob, C.bltn, C.fre, C.lo, C.frl, C.fxl⟩
theorem L_unbind (C : c.Ok) {n : Str} {v : MV} (pos : Pos) (hl : c.env.kindOf n = some .local) {s : Shared} {E : Value → Shared → Prop} {Q : Unit → Shared → Prop} (S : Sim c loc σ s.heap)
    (k : ∀ s', Steps s s' → Sim c [] σ s'.heap → Q () s') : wpAny c.M c.A (do bindName c.env n .none; unbindBehindTheSuite c.env n pos) Q E s := by
  have hp : (c.env.scope.kind == .class || (c.env.scope.kind == .module && c.env.locals != c.env.globals)) = false := by
    rw [C.kind]; rfl
  have h1 : WL c [] σ (storeName c.env n .none) (fun _ loc' σ' => loc' = [(n, .none)] ∧ σ' = σ) (fun _ _ => False) := L_store (u := .none) C .nil ⟨rfl, rfl⟩ hl
  refine wpAny_bind (wpAny_bindName (h1.free (S.weak nofun) fun _ loc' σ' s' st S' ⟨e1, e2⟩ => ?_))
  subst e1 e2
  obtain ⟨m, hm, hm'⟩ := id S'.ns
  obtain ⟨u, hu, _⟩ := hm' _ (.head _)
  unfold unbindBehindTheSuite
  refine wpAny_onRaise (wpAny_unbindName_local (env := c.env) hl hm hu hp fun h' u hn hb => k _ (st.to _ _) ?_)
  refine ⟨fun b o q => (hb.2 b fun z => ?_).trans (S'.keep b o q), ⟨_, hn, nofun⟩, fun p hp => (S'.outs p hp).sameBut hb (C.frl p hp).2, fun p hp => (hb.2 _ (C.fxl p hp).1).trans (S'.fx p hp), fun b o q => ?_⟩
  · rw [z, show c.H.get? c.env.locals = none from get_none_ge C.lo] at q; cases q
  · obtain ⟨x, y, z, z', ob, u, v⟩ := S'.hr b o q
    exact ⟨x, y, z, z', ob, (hb.2 b y).trans u, v⟩
theorem Sim.adopt (S : Sim c loc σ h) (ap : Apart c σ a) {ob : Obj} {o : MObj} (g : h.get? a = some ob) (r : Rep c.w o ob) : Sim c loc (upd σ a o) h := by
  refine ⟨S.keep, S.ns, S.outs, S.fx, fun b o' q => ?_⟩
  by_cases hb : b = a
  · subst hb
    rw [upd_self] at q; cases q
    exact ⟨ap.1, ap.2.2.1, ap.2.2.2.1, ap.2.2.2.2, ob, g, r⟩
  · rw [upd_ne hb] at q; exact S.hr b o' q
theorem sub_upd (ha : σ a = none) (o : MObj) : ∀ b o', σ b = some o' → upd σ a o b = some o' := fun b o' q => by
  rw [upd_ne]
  · exact q
  · intro z; rw [z, ha] at q; cases q
theorem try_core (C : c.Ok) (F : c.Fun) (H : c.A.handled = none) {body suite : List Stmt} {b₀ : Stmt} {n : Str} {np hpos pos : Pos} {XB : MV → MHeap → Prop} {locE : Loc} {loc' : Loc}
    (hbody : ∀ s, Sim c loc σ s.heap → wpAny c.M c.A (execs body c.env) (RetL c (fun f => Kt (erF f)) s) (Exc c locE XB s) s)
    (hw : Wipe n locE loc')
    (hs : ∀ told σ' a ed A', XB told σ' → σ' a = none → σ' ed = some (.sd [(S "told", told)]) → let c' : Cx := c.at A'; c'.Ok → WS c' ((n, .ref a) :: loc') (upd σ' a (.exc ed)) (b₀ :: suite) (fun f _ σ'' => Kt f [] σ'') (fun _ _ => False))
    (hl : c.env.kindOf n = some .local) (hg : c.env.kindOf "PsError" = some .globalImplicit) : W1 c loc σ (.Try body [.ExceptHandler (some (.Name "PsError" np)) (some n) (b₀ :: suite) hpos] [] [] pos) Kt X := fun s hs' => by
  refine wpAny_Try_except (wpAny_mono (hbody s hs') (fun f s' r => ?_) fun e s' ⟨h₁, k₁, σ', told, a, e1, e2, T, hx⟩ => ?_)
  · cases f with
    | next => exact wpAny_execs_nil r
    | brk => exact r
    | cont => exact r
    | ret v => exact r
  · subst e1 e2
    obtain ⟨S₁, ap, ed, hed, ex⟩ := T
    refine noteFrame_ok (s := { s with heap := h₁, toks := k₁ }) C F S₁ ap ex fun h₂ T v3 S₂ apT t => ?_
    refine setFlight_none (s := { s with heap := h₂, toks := k₁ }) C S₂ apT t fun h₃ S₃ t' => ?_
    have Cm := C.at (.ref a)
    refine wpAny_handleBy_cons (codeAny_handlers_test ?_) (by intro q; cases q)
    have hE : WE (c.at (c.A.mark (some (.ref a)))) locE σ' (eval (.Name "PsError" np) (c.at (c.A.mark (some (.ref a)))).env) (fun v σ'' => v = .ref 52 ∧ σ'' = σ') (fun _ _ => False) := E_global Cm (v := .ref 52) ⟨rfl, rfl⟩ (by kernel_rfl) hg (by kernel_rfl)
    obtain ⟨oe, vs, oT, ts, g1, g2, g3, g4, g5, g6, g7, g8, g9⟩ := t'
    have S₃' := ((S₃.adopt ap (o := .raw oe) g1 rfl).adopt (a := T) (o := .raw oT) ⟨apT.1, (upd_ne g6).trans apT.2.1, apT.2.2⟩ g7 rfl).at (c.A.mark (some (.ref a)))
    have hE' : WE (c.at (c.A.mark (some (.ref a)))) locE (upd (upd σ' a (.raw oe)) T (.raw oT)) (eval (.Name "PsError" np) (c.at (c.A.mark (some (.ref a)))).env) (fun v σ'' => v = .ref 52 ∧ σ'' = upd (upd σ' a (.raw oe)) T (.raw oT)) (fun _ _ => False) := E_global Cm (v := .ref 52) ⟨rfl, rfl⟩ (by kernel_rfl) hg (by kernel_rfl)
    refine hE'.free S₃' fun v σ₄ s₄ st₄ S₄ ⟨ev, es⟩ => ?_
    subst es
    rw [er_ref ev]
    obtain ⟨hp, g, dr, tk, os⟩ := s₄
    obtain ⟨_, _, _, _, _, k1, rfl⟩ := S₄.hr a (.raw oe) ((upd_ne g6.symm).trans (upd_self _ _ _))
    obtain ⟨_, _, _, _, _, k2, rfl⟩ := S₄.hr T (.raw oT) (upd_self _ _ _)
    have hC := (S₄.st Cm).k _ _ (cls_at c.w.params)
    refine wpAny_excMatches_sub_self hC k1 g2 (show bmE.contains (.type "BaseException") = true by decide) ?_
    show codeAny _ _ _ _ _
    refine codeAny_handlers_suite_as ?_
    have S₅ : Sim (c.at (c.A.mark (some (.ref a)))) locE σ' hp := S₄.sub fun b o q => sub_upd ((upd_ne g6).trans apT.2.1) _ b o (sub_upd ap.2.1 _ b o q)
    have apT' : Apart (c.at (c.A.mark (some (.ref a)))) σ' T := apT
    refine setFlight_none (c := c.at (c.A.mark (some (.ref a)))) (s := ⟨hp, g, dr, tk, os⟩) Cm S₅ apT' ⟨_, vs, _, ts, k1, g2, g3, g4, g5, g6, k2, g8, g9⟩ fun h₆ S₆ t₆ => ?_
    obtain ⟨oe6, vs6, _, _, q1, q2, q3, q4, _⟩ := t₆
    have S₇ := S₆.adopt (o := .exc ed) ap q1 ⟨q2, q3, vs6, q4⟩
    have hst : WL (c.at (c.A.mark (some (.ref a)))) locE (upd σ' a (.exc ed)) (storeName (c.at (c.A.mark (some (.ref a)))).env n (.ref a)) (fun _ l σ'' => l = (n, .ref a) :: loc' ∧ σ'' = upd σ' a (.exc ed)) (fun _ _ => False) := L_store (u := .ref a) Cm hw ⟨rfl, rfl⟩ hl
    refine hst.free (s := ⟨h₆, g, dr, tk, os⟩) S₇ fun _ l σ₈ s₈ st₈ S₈ ⟨el, eσ⟩ => ?_
    subst el eσ
    refine (hs told σ' a ed _ hx ap.2.1 hed Cm).free S₈ fun f l₉ σ₉ s₉ st₉ S₉ q₉ => ?_
    have st0 : Steps s ⟨hp, g, dr, tk, os⟩ := Steps.trans ⟨h₃, k₁, rfl⟩ st₄
    have st6 : Steps s ⟨h₆, g, dr, tk, os⟩ := Steps.trans st0 ⟨h₆, tk, rfl⟩
    exact L_unbind (v := .none) C hpos hl (S₉.back.weak (fun p hp => hp)) fun s' st' S' => .of ((st6.trans st₈).trans (st₉.trans st')) S' q₉
end
end
end Mine
end
section
set_option maxHeartbeats 400000
namespace Mine
noncomputable section
section
variable {c : Cx} {loc : Loc} {σ : MHeap} {α β : Type} {X : MV → MHeap → Prop} {Q : MV → MHeap → Prop} {h h' : Heap} {a d : Addr} {Kt : MF → Loc → MHeap → Prop}
theorem TB_expr {e : Expr} {pos : Pos} {XB : MV → MHeap → Prop} (h : WE c loc σ (eval e c.env) (fun _ σ' => Kt .next loc σ') XB) (hi : interactive c.env = false) (hs : swapsWith e none pos.line c.env = pure false) :
    ∀ s, Sim c loc σ s.heap → wpAny c.M c.A (execs [.Expr e pos] c.env) (RetL c (fun f => Kt (erF f)) s) (Exc c loc XB s) s := fun s hs' =>
  wpAny_execs_cons (wpAny_Expr_any (h.use .rfl hs' fun v σ' s' st S q => wpAny_execs_nil (.of st S q)) hi hs)
theorem TB_ret {e : Expr} {pos : Pos} {XB : MV → MHeap → Prop} (h : WE c loc σ (eval e c.env) (fun v σ' => Kt (.ret v) loc σ') XB) :
    ∀ s, Sim c loc σ s.heap → wpAny c.M c.A (execs [.Return (some e) pos] c.env) (RetL c (fun f => Kt (erF f)) s) (Exc c loc XB s) s := fun s hs' =>
  wpAny_execs_cons (wpAny_Return_some (h.use .rfl hs' fun v σ' s' st S q => .of st S q))
theorem TB_name (C : c.Ok) {x : Str} {p pos : Pos} {e : Expr} {XB : MV → MHeap → Prop} (h : WE c loc σ (eval e c.env) (fun v σ' => ∃ loc', Wipe x loc loc' ∧ Kt .next ((x, v) :: loc') σ') XB) (hl : c.env.kindOf x = some .local)
    (hs : swapsWith e (some (.Name x p)) pos.line c.env = pure false) :
    ∀ s, Sim c loc σ s.heap → wpAny c.M c.A (execs [.Assign [.Name x p] e pos] c.env) (RetL c (fun f => Kt (erF f)) s) (Exc c loc XB s) s := fun s hs' =>
  wpAny_execs_cons (wpAny_Assign_Name (h.use .rfl hs' fun v σ' s' st S ⟨loc', w, q⟩ => (L_store (X := fun _ _ => False) (Q := fun _ => Kt .next) C w q hl).free S fun _ l' σ'' s'' st'' S'' q'' => wpAny_execs_nil (.of (st.trans st'') S'' q'')) hs)

/- loops -/
noncomputable abbrev Cx.pin (c : Cx) (I : Addr) (ob : Obj) : Cx := ⟨c.w, c.H, c.n, c.A, c.frames, c.fr, (I, ob) :: c.fix, c.env⟩
theorem Sim.but (S : Sim c loc σ h) (ap : Apart c σ a) (k : ∀ b o, b ≠ a → h.get? b = some o → h'.get? b = some o) : Sim c loc σ h' := by
  obtain ⟨a1, a2, a3, a4, a5⟩ := ap
  refine ⟨fun b o q => k b o (fun z => ?_) (S.keep b o q), ?_, fun p hp => ns_at (S.outs p hp) fun o => k _ o (a4 p hp), fun p hp => k _ _ (a5 p hp) (S.fx p hp), fun b o' q => ?_⟩
  · rw [z, get_none_ge a1] at q; cases q
  · obtain ⟨m, x, y⟩ := S.ns; exact ⟨m, ns_at x fun o => k _ o a3.symm, y⟩
  · obtain ⟨x, y, z, z', ob', u, v⟩ := S.hr b o' q
    refine ⟨x, y, z, z', ob', k b ob' (fun e => ?_) u, v⟩
    rw [e, a2] at q; cases q
theorem Sim.pin (S : Sim c loc σ h) (ap : Apart c σ a) {ob : Obj} (g : h.get? a = some ob) : Sim (c.pin a ob) loc σ h :=
  ⟨S.keep, S.ns, S.outs, fun p hp => by
    rcases List.mem_cons.mp hp with rfl | hp
    · exact g
    · exact S.fx p hp, fun b o q => let ⟨x, y, z, z', r⟩ := S.hr b o q; ⟨x, y, z, fun p hp => by
    rcases List.mem_cons.mp hp with rfl | hp
    · intro e
      have := ap.2.1
      have e' : a = b := e
      rw [e', q] at this; cases this
    · exact z' p hp, r⟩⟩
theorem Sim.unpin {ob : Obj} (S : Sim (c.pin a ob) loc σ h) : Sim c loc σ h := ⟨S.keep, S.ns, S.outs, fun p hp => S.fx p (.tail _ hp), fun b o q => let ⟨x, y, z, z', r⟩ := S.hr b o q; ⟨x, y, z, fun p hp => z' p (.tail _ hp), r⟩⟩
theorem Sim.pinAp {ob : Obj} (S : Sim (c.pin a ob) loc σ h) (a1 : c.H.objs.size ≤ a) (a3 : a ≠ c.L) (a4 : ∀ p ∈ c.fr, p.1 ≠ a) (a5 : ∀ p ∈ c.fix, p.1 ≠ a) : Apart c σ a := by
  refine ⟨a1, ?_, a3, a4, a5⟩
  cases q : σ a with
  | none => rfl
  | some o => obtain ⟨_, _, _, z', _⟩ := S.hr a o q; exact absurd rfl (z' (a, ob) (.head _))
theorem Cx.Ok.pin (C : c.Ok) (ap : Apart c σ a) (ob : Obj) : (c.pin a ob).Ok := ⟨C.st, C.frames, C.depth, C.units, C.kind, C.glob, C.bltn, C.fre, C.lo, C.frl, fun p hp => by
  rcases List.mem_cons.mp hp with rfl | hp
  · exact ⟨ap.2.2.1, ap.2.2.2.1⟩
  · exact C.fxl p hp⟩
structure ItR (c : Cx) (v : MV) (xs : List MV) (st : Nat → Obj → Prop) (P : MHeap → Prop) : Prop where
  start : ∀ {loc σ s u} {Q : Value → Shared → Prop} {E : Value → Shared → Prop}, er u = v → P σ → Sim c loc σ s.heap → (∀ ob, ob.isFreed = false → st 0 ob → Q (.ref s.heap.objs.size) { s with heap := s.heap.push ob }) → wpAny c.M c.A (pyIter u) Q E s
  item : ∀ {loc σ s I ob i x} {Q : Option Value → Shared → Prop} {E : Value → Shared → Prop}, xs[i]? = some x → P σ → Sim c loc σ s.heap → s.heap.get? I = some ob → st i ob →
    (∀ u h' k ob', er u = x → Heap.SameBut I s.heap h' → h'.get? I = some ob' → st (i + 1) ob' → Q (some u) { s with heap := h', toks := k }) → wpAny c.M c.A (pyNext (.ref I)) Q E s
  self : ∀ {s I ob i} {Q : Value → Shared → Prop} {E : Value → Shared → Prop}, s.heap.get? I = some ob → st i ob → Q (.ref I) s → wpAny c.M c.A (pyIter (.ref I)) Q E s
  fin : ∀ {loc σ s I ob} {Q : Option Value → Shared → Prop} {E : Value → Shared → Prop}, c.A.handled = none → P σ → Sim c loc σ s.heap → s.heap.get? I = some ob → st xs.length ob →
    (∀ h' k, Heap.ExtBut I s.heap h' → Q none { s with heap := h', toks := k }) → wpAny c.M c.A (pyNext (.ref I)) Q E s
theorem S_for (C : c.Ok) (H : c.A.handled = none) {x : Str} {px pos : Pos} {iter : Expr} {body : List Stmt}
    (h : WE c loc σ (eval iter c.env) (fun v σ₁ => ∃ (xs : List MV) (st : Nat → Obj → Prop) (P : MHeap → Prop) (J : Nat → Loc → MHeap → Prop), ItR c v xs st P ∧ J 0 loc σ₁ ∧ (∀ i loc σ, J i loc σ → P σ) ∧
      (∀ i y loc σ, xs[i]? = some y → J i loc σ → ∃ loc', Wipe x loc loc' ∧ ∀ I ob, (c.pin I ob).Ok → WS (c.pin I ob) ((x, y) :: loc') σ body (fun f l' σ' => match f with | .next => J (i + 1) l' σ' | .cont => J (i + 1) l' σ' | .brk => Kt .next l' σ' | .ret v => Kt (.ret v) l' σ') (fun _ _ => False)) ∧
      (∀ loc σ, J xs.length loc σ → Kt .next loc σ)) X) (hl : c.env.kindOf x = some .local) (hs : ∀ v, foldedSetIterable iter c.env v = pure v) : W1 c loc σ (.For (.Name x px) iter body [] pos) Kt X := fun s hs' => by
  refine wpAny_For (h.use .rfl hs' fun u σ₁ s₁ st₁ S₁ ⟨xs, st, P, J, It, j0, jP, turn, fin⟩ => ?_) hs
  refine It.start rfl (jP _ _ _ j0) S₁ fun ob hf so => ?_
  have ap₁ := S₁.apart C (Nat.le_refl _)
  obtain ⟨p1, _, p3, p4, p5⟩ := ap₁
  refine codeAny_forLoop (fun n s' => ∃ i l σ' ob', n = xs.length - i ∧ i ≤ xs.length ∧ J i l σ' ∧ Sim c l σ' s'.heap ∧ s'.heap.get? s₁.heap.objs.size = some ob' ∧ st i ob' ∧ Steps s s' ∧ Apart c σ' s₁.heap.objs.size) ?_ xs.length
    ⟨0, loc, σ₁, ob, rfl, Nat.zero_le _, j0, S₁.grow fun _ _ e => Heap.get?_push_of_some _ e, Heap.get?_push_size _ hf, so, st₁.to _ _, S₁.apart C (Nat.le_refl _)⟩ (fun _ => rfl)
  rintro n s' ⟨i, l, σ', ob', rfl, hi, j, S, g, so, st', ap⟩
  rcases Nat.lt_or_ge i xs.length with hlt | hge
  · refine It.item (List.getElem?_eq_getElem hlt) (jP _ _ _ j) S g so fun u h' k ob'' hu hb g' so' => ?_
    obtain ⟨loc', w, hbody⟩ := turn i _ l σ' (List.getElem?_eq_getElem hlt) j
    have S' := S.other ap hb
    have hA : WL c l σ' (assign (.Name x px) c.env u) (fun _ l' σ'' => l' = (x, xs[i]) :: loc' ∧ σ'' = σ') (fun _ _ => False) := A_name C hu w ⟨rfl, rfl⟩ hl
    have S'p := S'.pin ap g'
    have hA' : WL (c.pin s₁.heap.objs.size ob'') l σ' (assign (.Name x px) c.env u) (fun _ l' σ'' => l' = (x, xs[i]) :: loc' ∧ σ'' = σ') (fun _ _ => False) := A_name (C.pin ap ob'') hu w ⟨rfl, rfl⟩ hl
    refine hA'.free (s := { s' with heap := h', toks := k }) S'p fun _ l' σ'' s₂ st₂ S₂ ⟨el, eσ⟩ => ?_
    subst el eσ
    refine (hbody _ ob'' (C.pin ap ob'')).free S₂ fun f l₃ σ₃ s₃ st₃ S₃ q => ?_
    have stf : Steps s s₃ := ((st'.to h' k).trans st₂).trans st₃
    have again : J (i + 1) l₃ σ₃ → ∃ m, m < xs.length - i ∧ ∃ i l σ' ob', m = xs.length - i ∧ i ≤ xs.length ∧ J i l σ' ∧ Sim c l σ' s₃.heap ∧ s₃.heap.get? s₁.heap.objs.size = some ob' ∧ st i ob' ∧ Steps s s₃ ∧ Apart c σ' s₁.heap.objs.size := fun j' =>
      ⟨xs.length - (i + 1), by omega, i + 1, l₃, σ₃, ob'', rfl, hlt, j', S₃.unpin, S₃.fx _ (.head _), so', stf, S₃.pinAp p1 p3 p4 p5⟩
    cases f with
    | next => exact again q
    | cont => exact again q
    | brk => exact .of stf S₃.unpin q
    | ret v => exact .of stf S₃.unpin q
  · obtain rfl : i = xs.length := Nat.le_antisymm hi hge
    refine It.fin H (jP _ _ _ j) S g so fun h' k he => wpAny_execs_nil ?_
    exact .of (st'.to h' k) (S.but ap fun b o hb e => he b o hb e) (fin l σ' j)
end
end
end Mine
end
section
set_option maxHeartbeats 400000
namespace Mine
noncomputable section
section
variable {c : Cx} {loc : Loc} {σ : MHeap} {α β : Type} {X : MV → MHeap → Prop} {Q : MV → MHeap → Prop} {h h' : Heap} {a d : Addr} {Kt : MF → Loc → MHeap → Prop}
/- iterators -/
theorem It_list {xs : List MV} (hz : xs.length ≤ 1000000) : ItR c (.ref a) xs (fun i ob => ob.cls = .type "list_iterator" ∧ ob.data = .fields #[.ref a, .int i 0]) (fun σ => σ a = some (.list xs)) where
  start hu q S k := by
    rw [er_ref hu]
    obtain ⟨vs, n, g, e⟩ := S.lst q
    exact wpAny_pyIter_list (listAt g) (k _ rfl ⟨rfl, rfl⟩)
  item hx q S g st k := by
    obtain ⟨vs, n, g', e⟩ := S.lst q
    obtain ⟨u, k1, k2⟩ := map_at e hx
    exact wpAny_pyNext_list_item ⟨_, g, st.1, st.2⟩ (listAt g') k1 fun h' ⟨ob', g1, g2, g3⟩ hb => k u h' _ ob' k2 hb g1 ⟨g2, by rw [g3]⟩
  self g st k := wpAny_pyIter_listiter ⟨_, g, st.1, st.2⟩ k
  fin H q S g st k := by
    obtain ⟨vs, n, g', e⟩ := S.lst q
    exact wpAny_pyNext_list_end H ⟨_, g, st.1, st.2⟩ (listAt g') (by rw [Array.getElem?_eq_none_iff, map_size e]; exact Nat.le_refl _) fun h' he => k h' _ he
theorem It_tup {xs : List MV} : ItR c (.ref a) xs (fun i ob => ob.cls = .type "tuple_iterator" ∧ ob.data = .fields #[.ref a, .int i 0]) (fun σ => ∀ loc, Has c loc σ a (.tup xs)) where
  start hu q S k := by
    rw [er_ref hu]
    obtain ⟨vs, g, e, _⟩ := (q _).tup S
    exact iter_tuple g (k _ rfl ⟨rfl, rfl⟩)
  item hx q S g st k := by
    obtain ⟨vs, g', e, _⟩ := (q _).tup S
    obtain ⟨u, k1, k2⟩ := map_at e hx
    exact next_tuple_item ⟨_, g, st.1, st.2⟩ g' k1 fun h' ⟨ob', g1, g2, g3⟩ hb => k u h' _ ob' k2 hb g1 ⟨g2, by rw [g3]⟩
  self g st k := wpAny_pyIter_tupleiter ⟨_, g, st.1, st.2⟩ k
  fin H q S g st k := by
    obtain ⟨vs, g', e, _⟩ := (q _).tup S
    exact next_tuple_end H ⟨_, g, st.1, st.2⟩ g' (by rw [Array.getElem?_eq_none_iff, map_size e]; exact Nat.le_refl _) fun h' he => k h' _ he
/- a range: the object stays in the small heap as it is -/
noncomputable def rangeOb (n : Nat) (ob : Obj) : Prop := ∃ t u v, ob = { cls := .type "range", data := .fields #[.int 0 t, .int n u, .int 1 v] }
theorem c_range (C : c.Ok) {n : Nat} (h : ∀ r ob, σ r = none → rangeOb n ob → Q (.ref r) (upd σ r (.raw ob))) : CallR c loc σ (ty "range") [.int n] Q X := fun u us hu hus s hs => by
  obtain ⟨v, rfl, hv⟩ := of1 hus
  obtain ⟨t, rfl⟩ := er_int hv
  rw [er_cst hu]
  exact call_range_1 (.at (hs.push (o := .raw _) C rfl rfl) (h _ _ (hs.fresh (Nat.le_refl _)) ⟨_, _, _, rfl⟩))
theorem It_range {n : Nat} {ob : Obj} (ho : rangeOb n ob) (hz : n ≤ 1000000) : ItR c (.ref a) ((List.range n).map fun i => .int (i : Nat)) (fun i o => o.cls = .type "range_iterator" ∧ o.dict = none ∧ o.slots = #[] ∧ o.data = .fields #[rawInt (i : Nat), rawInt ((n : Int) - i), rawInt 1]) (fun σ => σ a = some (.raw ob)) where
  start hu q S k := by
    rw [er_ref hu]
    obtain ⟨t, u, v, rfl⟩ := ho
    obtain ⟨_, _, _, _, _, g, rfl⟩ := S.hr _ _ q
    refine wpAny_pyIter_range g (show Builtin.Range.small 0 (n : Int) 1 = true from small_one (by decide) (by decide) (by omega) (by omega)) (k _ rfl ⟨rfl, rfl, rfl, ?_⟩)
    have : Builtin.Range.rangeSize 0 (n : Int) 1 = (n : Int) - (0 : Nat) := by rw [rangeSize_one]; split <;> omega
    rw [this]; rfl
  item {loc σ s I ob i x Q E} hx q S g st k := by
    obtain ⟨o1, o2, o3, o4⟩ := ob
    obtain ⟨h1, h2, h3, h4⟩ := st
    dsimp only at h1 h2 h3 h4
    subst h1 h2 h3 h4
    rw [List.getElem?_map, Option.map_eq_some_iff] at hx
    obtain ⟨j, hj, rfl⟩ := hx
    obtain ⟨hj1, hj2⟩ := List.getElem?_eq_some_iff.mp hj
    rw [List.length_range] at hj1
    rw [List.getElem_range] at hj2
    subst hj2
    refine wpAny_pyNext_range_item g (by omega) fun h' g' hb => k _ h' _ _ rfl hb g' ⟨rfl, rfl, rfl, ?_⟩
    simp only [rawInt]
    congr 4
    simp; omega
  self {s I ob i Q E} g st k := by
    obtain ⟨o1, o2, o3, o4⟩ := ob
    obtain ⟨h1, h2, h3, h4⟩ := st
    dsimp only at h1 h2 h3 h4
    subst h1 h2 h3 h4
    exact wpAny_pyIter_rangeiter g k
  fin {loc σ s I ob Q E} H q S g st k := by
    obtain ⟨o1, o2, o3, o4⟩ := ob
    obtain ⟨h1, h2, h3, h4⟩ := st
    dsimp only at h1 h2 h3 h4
    subst h1 h2 h3 h4
    rw [List.length_map, List.length_range] at g
    exact wpAny_pyNext_range_end H g (by omega) fun h' he => k h' _ he
end
end
end Mine
end
section
set_option maxHeartbeats 400000
namespace Mine
noncomputable section
section
variable {c : Cx} {loc : Loc} {σ : MHeap} {α β : Type} {X : MV → MHeap → Prop} {Q : MV → MHeap → Prop} {h h' : Heap} {a d : Addr} {Kt : MF → Loc → MHeap → Prop}
noncomputable abbrev Cx.comp (c : Cx) (m : Str → Option Value) (fix : List (Addr × Obj)) (env : Env) : Cx := ⟨c.w, c.H, c.n, c.A, c.frames, (c.L, m) :: c.fr, fix, env⟩
theorem Cx.Ok.comp (C : c.Ok) {env : Env} {m : Str → Option Value} {fix : List (Addr × Obj)} (ap : Apart c σ env.locals) (hk : env.scope.kind = .function) (hg : env.globals = mainGlobals) (hb : env.builtins = builtinsNs)
    (hx : ∀ p ∈ fix, p ∈ c.fix ∨ (Apart c σ p.1 ∧ p.1 ≠ env.locals)) : (c.comp m fix env).Ok := by
  refine ⟨C.st, C.frames, C.depth, C.units, hk, hg, hb, fun e he => ?_, ap.1, fun p hp => ?_, fun p hp => ?_⟩
  · obtain ⟨k1, a, k2, k3⟩ := C.fre e he
    refine ⟨k1, a, k2, .inr ?_⟩
    rcases k3 with rfl | ⟨p, hp, rfl⟩
    · exact ⟨_, .head _, rfl⟩
    · exact ⟨p, .tail _ hp, rfl⟩
  · rcases List.mem_cons.mp hp with rfl | hp
    · exact ⟨C.lo, fun e => ap.2.2.1 e.symm⟩
    · exact ⟨(C.frl p hp).1, ap.2.2.2.1 p hp⟩
  · rcases hx p hp with hp | ⟨g1, g2⟩
    · refine ⟨ap.2.2.2.2 p hp, fun q hq => ?_⟩
      rcases List.mem_cons.mp hq with rfl | hq
      · exact fun e => (C.fxl p hp).1 e.symm
      · exact (C.fxl p hp).2 q hq
    · refine ⟨g2, fun q hq => ?_⟩
      rcases List.mem_cons.mp hq with rfl | hq
      · exact fun e => g1.2.2.1 e.symm
      · exact g1.2.2.2.1 q hq
theorem Sim.comp (S : Sim c loc σ h) {env : Env} {m m' : Str → Option Value} (hm : h.Ns c.L m) {fix : List (Addr × Obj)} (ap : Apart c σ env.locals) (hn : h.Ns env.locals m') (hx : ∀ p ∈ fix, p ∈ c.fix ∨ (Apart c σ p.1 ∧ h.get? p.1 = some p.2)) : Sim (c.comp m fix env) [] σ h := by
  refine ⟨S.keep, ⟨m', hn, nofun⟩, fun p hp => ?_, fun p hp => (hx p hp).elim (S.fx p) (·.2), fun b o q => ?_⟩
  · rcases List.mem_cons.mp hp with rfl | hp
    · exact hm
    · exact S.outs p hp
  · obtain ⟨x, y, z, z', r⟩ := S.hr b o q
    refine ⟨x, fun e => ?_, fun p hp => ?_, fun p hp => ?_, r⟩
    · have e' : b = env.locals := e
      rw [e', ap.2.1] at q; cases q
    · rcases List.mem_cons.mp hp with rfl | hp
      · exact fun e => y e.symm
      · exact z p hp
    · rcases hx p hp with hp | ⟨g, _⟩
      · exact z' p hp
      · intro e; have := g.2.1; rw [e, q] at this; cases this
theorem Sim.uncomp {env : Env} {m : Str → Option Value} {fix : List (Addr × Obj)} {loc' : Loc} (S : Sim (c.comp m fix env) loc' σ h) (hf : ∀ p ∈ c.fix, p ∈ fix) (hl : ∀ p ∈ loc, ∃ u, m p.1 = some u ∧ er u = p.2) : Sim c loc σ h :=
  ⟨S.keep, ⟨m, S.outs _ (.head _), hl⟩, fun p hp => S.outs p (.tail _ hp), fun p hp => S.fx p (hf p hp), fun b o q => let ⟨x, y, z, z', r⟩ := S.hr b o q; ⟨x, fun e => z (c.L, m) (.head _) e.symm, fun p hp => z p (.tail _ hp), fun p hp => z' p (hf p hp), r⟩⟩
theorem Apart.to {σ' : MHeap} (ap : Apart c σ a) (h : σ' a = none) : Apart c σ' a := ⟨ap.1, h, ap.2.2⟩
theorem fix_none {ob : Obj} (S : Sim c loc σ h) (hp : (a, ob) ∈ c.fix) : σ a = none := by
  cases q : σ a with
  | none => rfl
  | some o => obtain ⟨_, _, _, z', _⟩ := S.hr a o q; exact absurd rfl (z' _ hp)
theorem L_none (S : Sim c loc σ h) : σ c.L = none := by
  cases q : σ c.L with
  | none => rfl
  | some o => obtain ⟨_, y, _⟩ := S.hr _ o q; exact absurd rfl y
noncomputable abbrev WIf (c : Cx) (loc : Loc) (σ : MHeap) (ifs : List Expr) (Q : Bool → MHeap → Prop) : Prop := WT c loc σ (forIn ifs true fun e r => if r = true then do let ok ← isTrue e c.env (eval e c.env); pure (ForInStep.yield ok) else pure (ForInStep.yield r)) Q (fun _ _ => False)
theorem I_nil {Q : Bool → MHeap → Prop} (h : Q true σ) : WIf c loc σ [] Q := WT.pure h
theorem I_one {e : Expr} {Q : Bool → MHeap → Prop} (h : WB c loc σ e Q (fun _ _ => False)) : WIf c loc σ [e] Q := by
  show WT c loc σ _ Q _
  rw [List.forIn_cons]
  simp only [if_true]
  refine WT.bind (WT.bind (h.mono (fun b σ' q => ?_) fun _ _ x => x))
  refine WT.pure ?_
  exact WT.pure q

theorem comp_core (C : c.Ok) (H : c.A.handled = none) {elt iter : Expr} {x : Str} {px : Pos} {ifs : List Expr} {scope : Scope} {cl : List (Str × Addr)} {pos : Pos} {v : MV} {xs : List MV} {st : Nat → Obj → Prop} {P : MHeap → Prop} (It : ItR c v xs st P) (J : Nat → List MV → MHeap → Prop)
    (hcell : ∀ y ∈ scope.names, y.2 ≠ .cell) (hkind : scope.kind = .function) (hx : scope.names.lookup x = some .local)
    (j0 : J 0 [] σ) (jP : ∀ i ys σ, J i ys σ → P σ) (jz : ∀ i ys σ, J i ys σ → ys.length ≤ 1000)
    (turn : ∀ i y ys σ, xs[i]? = some y → J i ys σ → ∀ fr fix D, (∀ p ∈ c.fix, p ∈ fix) → let c' : Cx := ⟨c.w, c.H, c.n, c.A, c.frames, fr, fix, compEnvC scope cl D c.env⟩; c'.Ok → WIf c' [(x, y)] σ ifs (fun ok σ' => if ok = true then WE c' [(x, y)] σ' (eval elt c'.env) (fun v σ'' => J (i + 1) (ys ++ [v]) σ'') (fun _ _ => False) else J (i + 1) ys σ'))
    {RR : Value → Addr → Result → Shared → Prop} {E : Value → Shared → Prop} {u : Value} {s₁ : Shared} (hu : er u = v) (S₁ : Sim c loc σ s₁.heap)
    (hRR : ∀ D Ca s' ys σ' m', Steps s₁ s' → Sim c loc (upd σ' D (.list ys)) s'.heap → Apart c (upd σ' D (.list ys)) Ca → s'.heap.Ns Ca m' → J xs.length ys σ' → σ' D = none → RR (.ref D) Ca (.ok .next) s') :
    wpAny c.M c.A (pyIter u) (fun it s₂ => wpAny c.M c.A (newList []) (fun acc s₃ => wpAny c.M c.A (newFunctionEnv scope c.env.globals cl [] c.env.qual none .none (some c.env)) (fun cenv s₄ =>
      codeAny c.M c.A (.compStart (.ListComp elt [⟨.Name x px, iter, ifs, 0⟩] scope pos) 0 it acc { cenv with scope := relabel scope c.env }) (RR acc cenv.locals) s₄) E s₃) E s₂) E s₁ := by
  refine It.start hu (jP _ _ _ j0) S₁ fun obI hfI st0 => ?_
  refine wpAny_newList ?_ (Nat.zero_le _)
  refine wpAny_newFunctionEnv hcell (fun y hy => nomatch hy) (fun h₁ hns₁ hsb₁ => ?_) hkind
  dsimp only at hns₁ hsb₁ ⊢
  obtain ⟨m, hm, hl⟩ := id S₁.ns
  have z1 : (s₁.heap.push obI).objs.size = s₁.heap.objs.size + 1 := Heap.size_push ..
  have z2 : ((s₁.heap.push obI).push { cls := .type "list", data := .seq ([] : List Value).toArray }).objs.size = s₁.heap.objs.size + 2 := by rw [Heap.size_push, z1]
  rw [z2] at hns₁ hsb₁
  have f01 : (s₁.heap.objs.size : Nat) ≠ s₁.heap.objs.size + 1 := by omega
  have f02 : (s₁.heap.objs.size : Nat) ≠ s₁.heap.objs.size + 2 := by omega
  have f12 : (s₁.heap.objs.size + 1 : Nat) ≠ s₁.heap.objs.size + 2 := by omega
  have up : ∀ {b : Addr} {o : Obj}, s₁.heap.get? b = some o → b < s₁.heap.objs.size + 2 := fun e => Nat.lt_of_lt_of_le (Heap.lt_size e) (Nat.le_add_right _ 2)
  have kp : ∀ b o, b < s₁.heap.objs.size + 2 → ((s₁.heap.push obI).push { cls := .type "list", data := .seq ([] : List Value).toArray }).get? b = some o → h₁.get? b = some o := fun b o hb e =>
    hsb₁.extBut b o (Nat.ne_of_lt hb) (Heap.get?_push_of_some _ e)
  have gI : h₁.get? s₁.heap.objs.size = some obI := kp _ _ (Nat.lt_add_of_pos_right (by decide)) (Heap.get?_push_of_some _ (Heap.get?_push_size _ hfI))
  have gD : h₁.get? (s₁.heap.objs.size + 1) = some (W.listOf #[] 0) := kp _ _ (Nat.lt_succ_self _) (Heap.get?_push_at z1.symm rfl)
  have Sa : Sim c loc σ h₁ := S₁.grow fun b o e => kp b o (up e) (Heap.get?_push_of_some _ (Heap.get?_push_of_some _ e))
  have apI := S₁.apart C (a := s₁.heap.objs.size) (Nat.le_refl _)
  have apD := S₁.apart C (a := s₁.heap.objs.size + 1) (Nat.le_add_right _ 1)
  have apC := S₁.apart C (a := s₁.heap.objs.size + 2) (Nat.le_add_right _ 2)
  have loop : codeAny c.M c.A (.compLoop (.ListComp elt [⟨.Name x px, iter, ifs, 0⟩] scope pos) 0 (.ref s₁.heap.objs.size) (.ref (s₁.heap.objs.size + 1)) (compEnvC scope cl (s₁.heap.objs.size + 2) c.env))
      (RR (.ref (s₁.heap.objs.size + 1)) (s₁.heap.objs.size + 2)) { s₁ with heap := h₁, toks := s₁.toks + ([] : List (Str × Value)).length } := by
    refine codeAny_compLoop_tests (fun n s' => ∃ i ys σ' ob' vs nD mC, n = xs.length - i ∧ i ≤ xs.length ∧ J i ys σ' ∧ Sim c loc σ' s'.heap ∧ σ' s₁.heap.objs.size = none ∧ σ' (s₁.heap.objs.size + 1) = none ∧ σ' (s₁.heap.objs.size + 2) = none ∧
      s'.heap.get? s₁.heap.objs.size = some ob' ∧ st i ob' ∧ s'.heap.get? (s₁.heap.objs.size + 1) = some (W.listOf vs nD) ∧ vs.toList.map er = ys ∧ s'.heap.Ns (s₁.heap.objs.size + 2) mC ∧ s'.heap.Ns c.L m ∧ Steps s₁ s') ?_ xs.length
      ⟨0, [], σ, obI, #[], 0, _, rfl, Nat.zero_le _, j0, Sa, apI.2.1, apD.2.1, apC.2.1, gI, st0, gD, rfl, hns₁, ?_, Steps.rfl.to _ _⟩ (fun _ => rfl)
    · rintro n s' ⟨i, ys, σ', ob', vs, nD, mC, rfl, hi, j, S, nI, nDn, nC, g, so, gl, hys, hnC, hnL, st'⟩
      have apI' : Apart c σ' s₁.heap.objs.size := apI.to nI
      have apD' : Apart c σ' (s₁.heap.objs.size + 1) := apD.to nDn
      have apC' : Apart c σ' (s₁.heap.objs.size + 2) := apC.to nC
      rcases Nat.lt_or_ge i xs.length with hlt | hge
      · refine It.item (List.getElem?_eq_getElem hlt) (jP _ _ _ j) S g so fun u h' k ob'' hu hb g' so' => ?_
        have S' := S.other apI' hb
        have gl' : h'.get? (s₁.heap.objs.size + 1) = some (W.listOf vs nD) := (hb.2 _ f01.symm).trans gl
        have nC' : h'.Ns (s₁.heap.objs.size + 2) mC := hnC.sameBut hb f02.symm
        have nL' : h'.Ns c.L m := hnL.sameBut hb apI.2.2.1.symm
        let fix := (s₁.heap.objs.size, ob'') :: (s₁.heap.objs.size + 1, W.listOf vs nD) :: c.fix
        have hfix : ∀ p ∈ fix, p ∈ c.fix ∨ (Apart c σ' p.1 ∧ h'.get? p.1 = some p.2) := fun p hp => by
          rcases List.mem_cons.mp hp with rfl | hp
          · exact .inr ⟨apI', g'⟩
          · rcases List.mem_cons.mp hp with rfl | hp
            · exact .inr ⟨apD', gl'⟩
            · exact .inl hp
        have hfix' : ∀ p ∈ fix, p ∈ c.fix ∨ (Apart c σ' p.1 ∧ p.1 ≠ s₁.heap.objs.size + 2) := fun p hp => by
          rcases List.mem_cons.mp hp with rfl | hp
          · exact .inr ⟨apI', f02⟩
          · rcases List.mem_cons.mp hp with rfl | hp
            · exact .inr ⟨apD', f12⟩
            · exact .inl hp
        have hsub : ∀ p ∈ c.fix, p ∈ fix := fun p hp => .tail _ (.tail _ hp)
        have C' : (c.comp m fix (compEnvC scope cl (s₁.heap.objs.size + 2) c.env)).Ok := C.comp (env := compEnvC scope cl (s₁.heap.objs.size + 2) c.env) apC' hkind C.glob C.bltn hfix'
        have Sc : Sim (c.comp m fix (compEnvC scope cl (s₁.heap.objs.size + 2) c.env)) [] σ' h' := S'.comp (env := compEnvC scope cl (s₁.heap.objs.size + 2) c.env) nL' apC' nC' hfix
        have hA : WL (c.comp m fix (compEnvC scope cl (s₁.heap.objs.size + 2) c.env)) [] σ' (assign (.Name x px) (compEnvC scope cl (s₁.heap.objs.size + 2) c.env) u) (fun _ l' σ'' => l' = [(x, xs[i])] ∧ σ'' = σ') (fun _ _ => False) :=
          A_name (c := c.comp m fix (compEnvC scope cl (s₁.heap.objs.size + 2) c.env)) C' hu .nil ⟨rfl, rfl⟩ (lookup_relabel_local hx)
        refine hA.free (s := { s' with heap := h', toks := k }) Sc fun _ l' σ'' s₂ st₂ S₂ ⟨el, eσ⟩ => ?_
        subst el eσ
        have again : ∀ s₃ σ₃ ys', Steps s₂ s₃ → Sim (c.comp m fix (compEnvC scope cl (s₁.heap.objs.size + 2) c.env)) [(x, xs[i])] σ₃ s₃.heap → J (i + 1) ys' σ₃ → ∀ h₄ vs' nD', Heap.SameBut (s₁.heap.objs.size + 1) s₃.heap h₄ → h₄.get? (s₁.heap.objs.size + 1) = some (W.listOf vs' nD') → vs'.toList.map er = ys' →
            ∃ mm, mm < xs.length - i ∧ ∃ i ys σ' ob' vs nD mC, mm = xs.length - i ∧ i ≤ xs.length ∧ J i ys σ' ∧ Sim c loc σ' h₄ ∧ σ' s₁.heap.objs.size = none ∧ σ' (s₁.heap.objs.size + 1) = none ∧ σ' (s₁.heap.objs.size + 2) = none ∧
              h₄.get? s₁.heap.objs.size = some ob' ∧ st i ob' ∧ h₄.get? (s₁.heap.objs.size + 1) = some (W.listOf vs nD) ∧ vs.toList.map er = ys ∧ h₄.Ns (s₁.heap.objs.size + 2) mC ∧ h₄.Ns c.L m ∧ Steps s₁ { s₃ with heap := h₄ } := by
          intro s₃ σ₃ ys' st₃ S₃ j₃ h₄ vs' nD' hb₄ g₄ e₄
          have e1 := fix_none S₃ (a := s₁.heap.objs.size) (.head _)
          have e2 := fix_none S₃ (a := s₁.heap.objs.size + 1) (.tail _ (.head _))
          have e3 : σ₃ (s₁.heap.objs.size + 2) = none := L_none S₃
          have Su : Sim c loc σ₃ s₃.heap := S₃.uncomp hsub hl
          obtain ⟨m₃, n₃, _⟩ := S₃.ns
          exact ⟨xs.length - (i + 1), by omega, i + 1, ys', σ₃, ob'', vs', nD', m₃, rfl, hlt, j₃, Su.other (apD.to e2) hb₄, e1, e2, e3, (hb₄.2 _ f01).trans (S₃.fx (s₁.heap.objs.size, ob'') (.head _)), so', g₄, e₄, n₃.sameBut hb₄ f12.symm, (S₃.outs _ (.head _)).sameBut hb₄ apD.2.2.1.symm, ((st'.to h' k).trans (st₂.trans st₃)).to h₄ s₃.toks⟩
        refine (turn i _ ys σ'' (List.getElem?_eq_getElem hlt) j ((c.L, m) :: c.fr) fix (s₁.heap.objs.size + 2) hsub C').free S₂ fun ok σ₃ s₃ st₃ S₃ q₃ => ?_
        by_cases hok : ok = true
        · rw [if_pos hok] at q₃ ⊢
          refine q₃.free S₃ fun vv σ₄ s₄ st₄ S₄ j₄ => ?_
          have gD₄ : s₄.heap.get? (s₁.heap.objs.size + 1) = some (W.listOf vs nD) := S₄.fx (s₁.heap.objs.size + 1, W.listOf vs nD) (.tail _ (.head _))
          have hvz : vs.size ≤ 1000 := by rw [map_size hys]; exact jz _ _ _ j
          refine wpAny_list_append_plain ⟨nD, gD₄⟩ (fun h₅ ⟨nD', g₅⟩ hb₅ => ?_) (lineUp (by omega))
          exact again s₄ σ₄ _ (st₃.trans st₄) S₄ j₄ h₅ _ nD' hb₅ g₅ (by simp [hys])
        · rw [if_neg hok] at q₃ ⊢
          exact again s₃ σ₃ _ st₃ S₃ q₃ s₃.heap vs nD (.refl _ _) (S₃.fx (s₁.heap.objs.size + 1, W.listOf vs nD) (.tail _ (.head _))) hys
      · obtain rfl : i = xs.length := Nat.le_antisymm hi hge
        refine It.fin H (jP _ _ _ j) S g so fun h' k he => ?_
        have S' : Sim c loc σ' h' := S.but apI' fun b o hb e => he b o hb e
        have gl' : h'.get? (s₁.heap.objs.size + 1) = some (W.listOf vs nD) := he _ _ f01.symm gl
        refine hRR _ _ { s' with heap := h', toks := k } ys σ' mC (st'.to h' k) (S'.adopt apD' gl' ⟨vs, nD, rfl, hys⟩) (apC'.to ?_) (ns_at hnC fun o e => he _ _ f02.symm e) j nDn
        rw [upd_ne f12.symm]; exact nC
    · exact ns_at hm fun o e => kp _ o (up e) (Heap.get?_push_of_some _ (Heap.get?_push_of_some _ e))
  rw [z2, z1]
  exact codeAny_compStart_list loop (It.self gI st0 loop)
end
end
end Mine
end
section
set_option maxHeartbeats 400000
namespace Mine
noncomputable section
section
variable {c : Cx} {loc : Loc} {σ : MHeap} {α β : Type} {X : MV → MHeap → Prop} {Q : MV → MHeap → Prop} {h h' : Heap} {a d : Addr} {Kt : MF → Loc → MHeap → Prop}
noncomputable def CompR (c : Cx) (elt : Expr) (x : Str) (ifs : List Expr) (scope : Scope) (cl : List (Str × Addr)) (v : MV) (σ₁ : MHeap) (Q : List MV → MHeap → Prop) : Prop :=
  ∃ (xs : List MV) (st : Nat → Obj → Prop) (P : MHeap → Prop) (J : Nat → List MV → MHeap → Prop), ItR c v xs st P ∧ J 0 [] σ₁ ∧ (∀ i ys σ, J i ys σ → P σ) ∧ (∀ i ys σ, J i ys σ → ys.length ≤ 1000) ∧
    (∀ i y ys σ, xs[i]? = some y → J i ys σ → ∀ fr fix D, (∀ p ∈ c.fix, p ∈ fix) → let c' : Cx := ⟨c.w, c.H, c.n, c.A, c.frames, fr, fix, compEnvC scope cl D c.env⟩; c'.Ok → WIf c' [(x, y)] σ ifs (fun ok σ' => if ok = true then WE c' [(x, y)] σ' (eval elt c'.env) (fun v σ'' => J (i + 1) (ys ++ [v]) σ'') (fun _ _ => False) else J (i + 1) ys σ')) ∧
    (∀ ys σ, J xs.length ys σ → Q ys σ)
theorem E_comp (C : c.Ok) (H : c.A.handled = none) {elt iter : Expr} {x : Str} {px : Pos} {ifs : List Expr} {scope : Scope} {cl : List (Str × Addr)} {pos : Pos} (hclos : closureFor scope c.env = pure cl)
    (hcell : scope.names.all (fun y => y.2 != .cell) = true) (hkind : scope.kind = .function) (hnames : scope.names.all (fun y => y.2 != .local || scope.names.lookup y.1 == some .local) = true) (hx : scope.names.lookup x = some .local) (hs : ∀ v, foldedSetIterable iter c.env v = pure v)
    (h : WE c loc σ (eval iter c.env) (fun v σ₁ => CompR c elt x ifs scope cl v σ₁ (fun ys σ' => Made σ' (.list ys) Q)) X) : WE c loc σ (eval (.ListComp elt [⟨.Name x px, iter, ifs, 0⟩] scope pos) c.env) Q X := fun s hs' => by
  have hcell' : ∀ y ∈ scope.names, y.2 ≠ .cell := fun y hy => by have := List.all_eq_true.mp hcell y hy; simpa using this
  have hnames' : ∀ y ∈ scope.names, y.2 = .local → scope.names.lookup y.1 = some .local := fun y hy e => by have := List.all_eq_true.mp hnames y hy; rw [e] at this; simpa using this
  rw [eval_ListComp]
  refine wpAny_comprehension_free (use := none) rfl hs hclos hkind hnames' (h.use .rfl hs' fun u σ₁ s₁ st₁ S₁ ⟨xs, st, P, J, It, j0, jP, jz, turn, fin⟩ => ?_)
  refine comp_core (RR := fun acc Ca => compPost c.M c.A (Exc c loc X s) none (Ret c loc (fun v σ => Q (er v) σ) s) acc Ca) C H It J hcell' hkind hx j0 jP jz turn rfl S₁ fun D Ca s' ys σ' m' st' S' ap hn j hD => ?_
  refine ⟨m', hn, fun h'' hb => ?_⟩
  exact .of ((st₁.trans st').to h'' s'.toks) (S'.other ap hb) (fin ys σ' j D hD)
theorem S_comp (C : c.Ok) (H : c.A.handled = none) {elt iter : Expr} {x y : Str} {px py : Pos} {ifs : List Expr} {scope : Scope} {cl : List (Str × Addr)} {pos spos : Pos} (hclos : closureFor scope c.env = pure cl)
    (hcell : scope.names.all (fun y => y.2 != .cell) = true) (hkind : scope.kind = .function) (hnames : scope.names.all (fun y => y.2 != .local || scope.names.lookup y.1 == some .local) = true) (hx : scope.names.lookup x = some .local) (hs : ∀ v, foldedSetIterable iter c.env v = pure v)
    (hsw : swapsWith (.ListComp elt [⟨.Name x px, iter, ifs, 0⟩] scope pos) (some (.Name y py)) spos.line c.env = pure true) (hy : c.env.kindOf y = some .local)
    (h : WE c loc σ (eval iter c.env) (fun v σ₁ => CompR c elt x ifs scope cl v σ₁ (fun ys σ' => ∀ r, σ' r = none → ∃ loc', Wipe y loc loc' ∧ Kt .next ((y, .ref r) :: loc') (upd σ' r (.list ys)))) X) : W1 c loc σ (.Assign [.Name y py] (.ListComp elt [⟨.Name x px, iter, ifs, 0⟩] scope pos) spos) Kt X := fun s hs' => by
  have hcell' : ∀ y ∈ scope.names, y.2 ≠ .cell := fun y hy => by have := List.all_eq_true.mp hcell y hy; simpa using this
  have hnames' : ∀ y ∈ scope.names, y.2 = .local → scope.names.lookup y.1 = some .local := fun y hy e => by have := List.all_eq_true.mp hnames y hy; rw [e] at this; simpa using this
  rw [exec_Assign_Name_used _ _ _ _ hsw]
  refine wpAny_bind (wpAny_standAt (wpAny_bind ?_))
  show wpAny _ c.A (do let _ ← comprehension (.ListComp elt [⟨.Name x px, iter, ifs, 0⟩] scope pos) scope c.env _ (newList []) false (eval iter c.env) (some (assign (.Name y py) c.env))) _ _ s
  refine wpAny_bind (wpAny_mono (wpAny_comprehension_free (use := some (assign (.Name y py) c.env)) (Q := fun _ s' => RetL c (fun f => Kt (erF f)) s .next s') (E := Exc c [] X s) rfl hs hclos hkind hnames' (h.use .rfl hs' fun u σ₁ s₁ st₁ S₁ ⟨xs, st, P, J, It, j0, jP, jz, turn, fin⟩ => ?_)) (fun _ s' hq => wpAny_pure (wpAny_pure hq)) fun _ _ e => e)
  refine comp_core (RR := fun acc Ca => compPost c.M c.A (Exc c [] X s) (some (assign (.Name y py) c.env)) (fun _ s' => RetL c (fun f => Kt (erF f)) s .next s') acc Ca) C H It J hcell' hkind hx j0 jP jz turn rfl S₁ fun D Ca s' ys σ' m' st' S' ap hn j hD => ?_
  obtain ⟨loc', w, q⟩ := fin ys σ' j D hD
  show wpAny _ c.A (assign (.Name y py) c.env (.ref D)) _ _ _
  have hA : WL c loc (upd σ' D (.list ys)) (assign (.Name y py) c.env (.ref D)) (fun _ l' σ'' => l' = (y, .ref D) :: loc' ∧ σ'' = upd σ' D (.list ys)) (fun _ _ => False) := A_name C (v := .ref D) rfl w ⟨rfl, rfl⟩ hy
  obtain ⟨m, hm, hl⟩ := id S'.ns
  have hp : (c.env.scope.kind == .class || (c.env.scope.kind == .module && c.env.locals != c.env.globals)) = false := by rw [C.kind]; rfl
  refine PyProof.Rows.assign_Name (wpAny_storeName_local (env := c.env) hy hm (fun h₂ hn₂ hb₂ => ?_) hp)
  have S₂ := S'.store C hm hl hn₂ hb₂ w
  exact ⟨m', hn.sameBut hb₂ ap.2.2.1, fun h₃ hb₃ => .of (((st₁.trans st').to h₂ _).to h₃ _) (S₂.other ap hb₃) q⟩
/- names kept in cells -/
noncomputable def cellAt (c : Cx) (a : Addr) (v : MV) : Prop := ∃ ob u, (a, ob) ∈ c.fix ∧ ob.data = .cell (some u) ∧ er u = v
theorem E_cell (C : c.Ok) {x : Str} {pos : Pos} {v : MV} (k : cellAt c a v) (h : Q v σ) (hc : c.env.cells.lookup x = some a) (hl : c.env.kindOf x = some .cell) (hd : (x == ("__debug__" : Str)) = false) : WE c loc σ (eval (.Name x pos) c.env) Q X := fun s hs => by
  obtain ⟨ob, u, k1, k2, k3⟩ := k
  exact wpAny_Name (wpAny_loadName_cell C.kind hl hc ⟨ob, hs.fx _ k1, k2⟩ (.here hs (by rw [k3]; exact h))) hd
theorem E_free (C : c.Ok) {x : Str} {pos : Pos} {v : MV} (k : cellAt c a v) (h : Q v σ) (hc : c.env.cells.lookup x = some a) (hl : c.env.kindOf x = some .free) (hd : (x == ("__debug__" : Str)) = false) (hn : (x == ("__classdict__" : Str)) = false) : WE c loc σ (eval (.Name x pos) c.env) Q X := fun s hs => by
  obtain ⟨ob, u, k1, k2, k3⟩ := k
  exact wpAny_Name (wpAny_loadName_free C.kind hl hc ⟨ob, hs.fx _ k1, k2⟩ (.here hs (by rw [k3]; exact h)) hn) hd
theorem cells_fix {hp : Heap} {n L : Nat} (hL : n ≤ L) : ∀ {cs : List (Str × Nat × MV)}, (∀ p ∈ cs, 0 < p.2.1 ∧ ∃ u, hp.IsCell (L + p.2.1) (some u) ∧ er u = p.2.2) →
    ∃ fx : List (Addr × Obj), (∀ q ∈ fx, n ≤ q.1 ∧ q.1 ≠ L ∧ hp.get? q.1 = some q.2) ∧ ∀ p ∈ cs, ∃ ob u, (L + p.2.1, ob) ∈ fx ∧ ob.data = .cell (some u) ∧ er u = p.2.2
  | [], _ => ⟨[], fun _ h => absurd h List.not_mem_nil, fun _ h => absurd h List.not_mem_nil⟩
  | p :: r, h => by
    obtain ⟨fx, h1, h2⟩ := cells_fix hL (cs := r) fun q hq => h q (List.mem_cons_of_mem _ hq)
    obtain ⟨k, u, hcell, e⟩ := h p List.mem_cons_self
    obtain ⟨ob, g, hd⟩ := hcell
    refine ⟨(L + p.2.1, ob) :: fx, fun q hq => ?_, fun q hq => ?_⟩
    · rcases List.mem_cons.mp hq with hq | hq
      · rw [hq]
        exact ⟨Nat.le_trans hL (Nat.le_add_right _ _), Nat.ne_of_gt (Nat.lt_add_of_pos_right k), g⟩
      · exact h1 q hq
    · rcases List.mem_cons.mp hq with hq | hq
      · rw [hq]; exact ⟨ob, u, List.mem_cons_self, hd, e⟩
      · obtain ⟨ob', u', x, y, z⟩ := h2 q hq
        exact ⟨ob', u', List.mem_cons_of_mem _ x, y, z⟩
theorem c_defC (C : c.Ok) {n : Nat} (hn : c.n = n + 1) {f : Addr} {vs : List MV}
    {name qual : Str} {params : Arguments} {body : List Stmt} {scope : Scope} {dV kV doc pm cdv ct oc : Value} {an od : Option Addr} {osl : Array (Option Value)} {names : List Str} {loc₀ : Loc} {cs : List (Str × Nat × MV)}
    (ho : (K c.w.params).lookup f = some ⟨oc, od, .func (fnOf name qual params body scope dV kV doc pm an cdv ct), osl⟩) (hcd : codeIn (K c.w.params) cdv qual = true)
    (hb : ∀ us : List Value, us.length = names.length → bindArgs (fnOf name qual params body scope dV kV doc pm an cdv ct) ⟨us, []⟩ = pure (names.zip us)) (hz : vs.length = names.length)
    (hkd : ∀ L : Nat, names.all (fun y => scope.names.lookup y == some .local || (scope.names.lookup y == some .cell && ((cellsFrom (L + 1) scope.names []).lookup y).isSome)) = true)
    (hL : ∀ L us, us.map er = vs → ∀ p ∈ loc₀, ∃ u, bindL (callEnvC (fnOf name qual params body scope dV kV doc pm an cdv ct) L f).kindOf (names.zip us) (fun _ => none) p.1 = some u ∧ er u = p.2)
    (hC : ∀ (L : Nat) us, us.map er = vs → ∀ p ∈ cs, 0 < p.2.1 ∧ (cellsFrom (L + 1) scope.names []).lookup p.1 = some (L + p.2.1) ∧ ∃ u, bindC (callEnvC (fnOf name qual params body scope dV kV doc pm an cdv ct) L f).kindOf (names.zip us) (fun _ => none) p.1 = some u ∧ er u = p.2.2)
    (hco : scope.isCoroutine = false) (hgen : scope.isGenerator = false) (hk : scope.kind = .function)
    (h : ∀ H n' A frames fr fix L, n' = n → A.handled = c.A.handled → let c' : Cx := ⟨c.w, H, n', A, frames, fr, fix, callEnvC (fnOf name qual params body scope dV kV doc pm an cdv ct) L f⟩; c'.Ok → c'.Fun → (∀ p ∈ cs, cellAt c' (L + p.2.1) p.2.2) → WS c' loc₀ σ body (fun fl _ σ' => Q (retOf fl) σ') X) : CallR c loc σ (.ref f) vs Q X := fun u us hu hus s S => by
  rw [er_ref hu]
  have Kn := (S.st C).k
  obtain ⟨m, hm, hl⟩ := S.ns
  have hlen : us.length = names.length := by rw [← hz, ← hus, List.length_map]
  have hd := C.depth
  refine wpAny_call (codeAny_call_cells (fd := fnOf name qual params body scope dV kV doc pm an cdv ct) (body := body) (binds := names.zip us) (by show c.A.depth < 1000; omega) (Kn _ _ ho) rfl (S.st C).nl (codeRec_of Kn hcd) rfl (hb us hlen) rfl (fun x hx => ?_) (fun s₁ I => ?_) hco hgen hk)
  · have := List.all_eq_true.mp (hkd s.heap.objs.size) x.1 (List.of_mem_zip hx).1
    rw [Bool.or_eq_true, Bool.and_eq_true, beq_iff_eq, beq_iff_eq] at this
    exact this
  · obtain ⟨⟨⟨hh, tk, rfl⟩, hns, hkeep, _⟩, hcell, _, _⟩ := I
    have hcs : ∀ p ∈ cs, 0 < p.2.1 ∧ ∃ u, hh.IsCell (s.heap.objs.size + p.2.1) (some u) ∧ er u = p.2.2 := fun p hp => by
      obtain ⟨k1, k2, u, k3, k4⟩ := hC s.heap.objs.size us hus p hp
      have := hcell p.1 _ k2
      rw [k3] at this
      exact ⟨k1, u, this, k4⟩
    obtain ⟨fx, hf1, hf2⟩ := cells_fix (n := s.heap.objs.size) (Nat.le_refl _) hcs
    have hx1 : ∀ p ∈ fx ++ c.fix, p ∈ c.fix ∨ s.heap.objs.size ≤ p.1 ∧ hh.get? p.1 = some p.2 := fun p hp => (List.mem_append.mp hp).elim (fun hp => .inr ⟨(hf1 p hp).1, (hf1 p hp).2.2⟩) .inl
    have hx2 : ∀ p ∈ fx ++ c.fix, p ∈ c.fix ∨ s.heap.objs.size ≤ p.1 ∧ p.1 ≠ s.heap.objs.size := fun p hp => (List.mem_append.mp hp).elim (fun hp => .inr ⟨(hf1 p hp).1, (hf1 p hp).2.1⟩) .inl
    have hsub : ∀ p ∈ c.fix, p ∈ fx ++ c.fix := fun p hp => List.mem_append_right _ hp
    let env := callEnvC (fnOf name qual params body scope dV kV doc pm an cdv ct) s.heap.objs.size f
    have S' : Sim (c.inner c.A n m (fx ++ c.fix) env) loc₀ σ hh := S.enter (env := env) hkeep hm (Nat.le_refl _) hns (hL s.heap.objs.size us hus) hx1
    have C' : (c.inner c.A n m (fx ++ c.fix) env).Ok := C.inner (env := env) .rfl hn S (Nat.le_refl _) hk rfl rfl rfl hx2
    have F' : (c.inner c.A n m (fx ++ c.fix) env).Fun := ⟨rfl, _, rfl⟩
    have main := h c.H n (c.A.deeper env) (env :: c.frames) ((c.L, m) :: c.fr) (fx ++ c.fix) s.heap.objs.size rfl rfl C' F' fun p hp => by
      obtain ⟨ob, u, x, y, z⟩ := hf2 p hp
      exact ⟨ob, u, List.mem_append_left _ x, y, z⟩
    have st : Steps s { s with heap := hh, toks := tk } := Steps.rfl.to _ _
    refine wpAny_mono (main.use (R := fun fl s' => Ret c loc (fun v σ => Q (er v) σ) s (match fl with | .ret v => v | _ => .none) s') st S' fun fl loc' σ' s' st' S'' q => .of st' (S''.leave hsub hl) (by cases fl <;> exact q)) (fun _ _ z => z) fun e s' ⟨h', k, σ', told, a, e1, e2, T, x⟩ => ?_
    subst e1 e2
    exact leaving_ok C' F' T fun h'' T' => ⟨h'', k, σ', told, a, rfl, rfl, T'.leave hsub hl, x⟩
end
end
end Mine
end
section
set_option maxHeartbeats 400000
namespace Mine
noncomputable section
section
variable {c : Cx} {loc : Loc} {σ : MHeap} {α β : Type} {X : MV → MHeap → Prop} {Q : MV → MHeap → Prop} {h h' : Heap} {a d : Addr} {Kt : MF → Loc → MHeap → Prop}
noncomputable abbrev fdata (st : Stmt) (qual : Str) (dV pm : Value) (code : Addr) : FuncData := fnOf (fname st) qual (fargs st) (fbody st) (fscope st) dV .none .none pm none (.ref code) .none
structure FnAt (P : Params) (f : Addr) (st : Stmt) (qual : Str) (dV pm : Value) (code : Addr) (names : List Str) : Prop where
  ho : (K P).lookup f = some ⟨.type "function", none, .func (fdata st qual dV pm code), #[]⟩
  hcd : codeIn (K P) (.ref code) qual = true
  hb : BindR (K P) (fdata st qual dV pm code) names
  hnd : names.Nodup
  hloc : names.all (fun y => (fscope st).names.lookup y == some .local) = true
  hco : (fscope st).isCoroutine = false
  hgen : (fscope st).isGenerator = false
  hk : (fscope st).kind = .function
  hcell : (fscope st).names.all (fun x => x.2 != .cell) = true
theorem c_fn (C : c.Ok) {n : Nat} (hn : c.n = n + 1) {f : Addr} {vs : List MV} {st : Stmt} {qual : Str} {dV pm : Value} {code : Addr} {names : List Str} (F : FnAt c.w.params f st qual dV pm code names) (hz : vs.length = names.length) {loc₀ : Loc} (hl : loc₀ = names.zip vs)
    (h : ∀ H n' A frames fr fix L, n' = n → A.handled = c.A.handled → (⟨c.w, H, n', A, frames, fr, fix, envOf qual (fscope st) L f (.ref code)⟩ : Cx).Ok → (⟨c.w, H, n', A, frames, fr, fix, envOf qual (fscope st) L f (.ref code)⟩ : Cx).Fun →
      WS ⟨c.w, H, n', A, frames, fr, fix, envOf qual (fscope st) L f (.ref code)⟩ loc₀ σ (fbody st) (fun fl _ σ' => Q (retOf fl) σ') X) : CallR c loc σ (.ref f) vs Q X := by
  subst hl
  exact c_def C hn F.ho F.hcd F.hb hz F.hnd F.hloc F.hco F.hgen F.hk F.hcell h
noncomputable def newOk (K : Frag) (Cl f : Addr) : Bool := makesIn K Cl && (findIn K (.ref Cl) "__init__" == some (some (.ref f))) && (typeIn K (.ref f) == some (.type "function"))
theorem c_new (C : c.Ok) {n : Nat} (hn : c.n = n + 1) {Cl f : Addr} {vs : List MV} {st : Stmt} {qual : Str} {dV pm : Value} {code : Addr} {names : List Str} (F : FnAt c.w.params f st qual dV pm code names) (hc : newOk (K c.w.params) Cl f = true) (hz : vs.length + 1 = names.length)
    (h : ∀ x d, σ x = none → σ d = none → d ≠ x → ∀ H n' A frames fr fix L, n' = n → A.handled = c.A.handled → (⟨c.w, H, n', A, frames, fr, fix, envOf qual (fscope st) L f (.ref code)⟩ : Cx).Ok → (⟨c.w, H, n', A, frames, fr, fix, envOf qual (fscope st) L f (.ref code)⟩ : Cx).Fun →
      WS ⟨c.w, H, n', A, frames, fr, fix, envOf qual (fscope st) L f (.ref code)⟩ (names.zip (.ref x :: vs)) (upd (upd σ d (.sd [])) x (.inst Cl d)) (fbody st) (fun fl _ σ' => retOf fl = .none ∧ Q (.ref x) σ') X) : CallR c loc σ (.ref Cl) vs Q X := fun u us hu hus s hs => by
  rw [er_ref hu]
  simp only [newOk, Bool.and_eq_true, beq_iff_eq] at hc
  obtain ⟨⟨h1, h2⟩, h3⟩ := hc
  obtain ⟨hp, g, dr, tk, os⟩ := s
  have X0 := (hs.st C).k
  have S₁ : Sim c loc (upd σ hp.objs.size (.sd [])) (hp.push emptyDict) := Sim.push (h := hp) C hs rfl ⟨[], ⟨_, _, ⟨rfl, rfl, rfl⟩, rfl, fun e he => by simp at he, .nil, List.nodup_nil⟩, rfl⟩
  have S₂ : Sim c loc (upd (upd σ hp.objs.size (.sd [])) (hp.objs.size + 1) (.inst Cl hp.objs.size)) ((hp.push emptyDict).push (instObj Cl hp.objs.size)) := by
    have := Sim.push (h := hp.push emptyDict) (ob := instObj Cl hp.objs.size) (o := .inst Cl hp.objs.size) C S₁ rfl rfl
    rw [Heap.size_push] at this
    exact this
  refine wpAny_call (make_core (h := hp) (g := g) (d := dr) (t := tk) (os := os) (kw := []) (makes_of X0 h1) (looks_findIn X0 h2) (fun self => bind_fn X0 self h3) (.inl rfl) ?_)
  have st : Steps ⟨hp, g, dr, tk, os⟩ ⟨(hp.push emptyDict).push (instObj Cl hp.objs.size), g, dr, tk, os⟩ := ⟨_, _, rfl⟩
  refine call_raw (s := ⟨(hp.push emptyDict).push (instObj Cl hp.objs.size), g, dr, tk, os⟩) (vs := .ref (hp.objs.size + 1) :: vs) (Q := fun r σ' => r = .none ∧ Q (.ref (hp.objs.size + 1)) σ') C (near_type c.A Cl us) hn S₂ (by rw [List.map_cons, hus]; rfl) F.ho F.hcd F.hb (by rw [List.length_cons]; exact hz) F.hnd F.hloc F.hco F.hgen F.hk F.hcell
    (h (hp.objs.size + 1) hp.objs.size (hs.fresh (Nat.le_succ _)) (hs.fresh (Nat.le_refl _)) (Nat.ne_of_lt (Nat.lt_succ_self _))) (fun r σ' s' st' S' q => ?_) fun e s' x => Exc.step st x
  exact ⟨er_none q.1, .of (st.trans st') S' q.2⟩
end
end
end Mine
end
section
set_option maxHeartbeats 400000
namespace Mine
noncomputable section
section
variable {c : Cx} {loc : Loc} {σ : MHeap} {α β : Type} {X : MV → MHeap → Prop} {Q : MV → MHeap → Prop} {h h' : Heap} {a d : Addr} {Kt : MF → Loc → MHeap → Prop}
noncomputable def er22 (p : Value × Value) : MV × MV := (er p.1, er p.2)
noncomputable abbrev WDict (c : Cx) (loc : Loc) (σ : MHeap) (keys : List (Option Expr)) (values : List Expr) (pos : Pos) (Q : List (MV × MV) → MHeap → Prop) (X : MV → MHeap → Prop) : Prop := WT c loc σ (evalPairs (pairTrees keys values c.env pos)) (fun vs σ' => Q (vs.map er22) σ') X
theorem D_nil {pos : Pos} {Q : List (MV × MV) → MHeap → Prop} (h : Q [] σ) : WDict c loc σ [] [] pos Q X := WT.pure h
theorem D_cons {k v : Expr} {ks : List (Option Expr)} {vs : List Expr} {pos : Pos} {Q : List (MV × MV) → MHeap → Prop} (h : WE c loc σ (eval k c.env) (fun kv σ₁ => WE c loc σ₁ (eval v c.env) (fun vv σ₂ => WDict c loc σ₂ ks vs pos (fun r => Q ((kv, vv) :: r)) X) X) X) : WDict c loc σ (some k :: ks) (v :: vs) pos Q X := fun s hs => by
  show wpAny _ _ (evalPairs ((eval k c.env, do let x ← eval v c.env; standAt pos; pure x) :: pairTrees ks vs c.env pos)) _ _ s
  rw [evalPairs]
  refine wpAny_bind (h.use .rfl hs fun kv σ₁ s₁ st₁ S₁ h₁ => wpAny_bind (wpAny_holding (wpAny_bind (h₁.use st₁ S₁ fun vv σ₂ s₂ st₂ S₂ h₂ => wpAny_bind (wpAny_standAt (wpAny_pure (wpAny_bind (wpAny_holding (h₂.use st₂ S₂ fun r σ₃ s₃ st₃ S₃ h₃ => wpAny_pure (.of st₃ S₃ h₃)))))))))) 
theorem carry_s {w : World} : ∀ {vs : List (Value × Value)} {es : List (Str × MV)}, vs.map er22 = es.map (fun p => (MV.str p.1, p.2)) → ∃ kvs : List (Str × Value), Carries (strKind pw w) vs kvs ∧ kvs.map er2 = es
  | [], [], _ => ⟨[], trivial, rfl⟩
  | [], _ :: _, h => by cases h
  | _ :: _, [], h => by cases h
  | (k, v) :: r, (x, y) :: q, h => by
    rw [List.map_cons, List.map_cons, List.cons.injEq] at h
    obtain ⟨kvs, h1, h2⟩ := carry_s (w := w) h.2
    have e1 : er k = .str x := congrArg Prod.fst h.1
    have e2 : er v = y := congrArg Prod.snd h.1
    obtain ⟨t, rfl⟩ := er_str e1
    exact ⟨(x, v) :: kvs, ⟨strKind_is _ _ _ _, rfl, h1⟩, by rw [List.map_cons, h2]; simp [er2, e2]⟩
theorem carry_b {w : World} : ∀ {vs : List (Value × Value)} {es : List (List UInt8 × MV)}, vs.map er22 = es.map (fun p => (MV.bytes p.1, p.2)) → ∃ kvs : List (List UInt8 × Value), Carries (bytesKind pw w) vs kvs ∧ kvs.map er2 = es
  | [], [], _ => ⟨[], trivial, rfl⟩
  | [], _ :: _, h => by cases h
  | _ :: _, [], h => by cases h
  | (k, v) :: r, (x, y) :: q, h => by
    rw [List.map_cons, List.map_cons, List.cons.injEq] at h
    obtain ⟨kvs, h1, h2⟩ := carry_b (w := w) h.2
    have e1 : er k = .bytes x := congrArg Prod.fst h.1
    have e2 : er v = y := congrArg Prod.snd h.1
    obtain ⟨t, rfl⟩ := er_bytes e1
    exact ⟨(x, v) :: kvs, ⟨isB _ _, rfl, h1⟩, by rw [List.map_cons, h2]; simp [er2, e2]⟩
theorem E_sdict (C : c.Ok) {keys : List (Option Expr)} {values : List Expr} {pos : Pos} (hall : keys.all (·.isSome) = true) (hl : keys.length = values.length) (h0 : keys ≠ []) (hlen : keys.length ≤ 15)
    (h : ∀ d, σ d = none → WDict c loc (upd σ d (.sd [])) keys values pos (fun l σ' => ∃ es : List (Str × MV), l = es.map (fun p => (MV.str p.1, p.2)) ∧ (es.map (·.1)).Nodup ∧ σ' d = some (.sd []) ∧ Q (.ref d) (upd σ' d (.sd es))) X) : WE c loc σ (eval (.Dict keys values pos) c.env) Q X := fun s hs => by
  have S₁ : Sim c loc (upd σ s.heap.objs.size (.sd [])) (s.heap.push emptyDict) := hs.push C rfl ⟨[], ⟨_, _, ⟨rfl, rfl, rfl⟩, rfl, fun e he => by simp at he, .nil, List.nodup_nil⟩, rfl⟩
  refine wpAny_Dict_walk (knd := strKind pw c.w) hall hl h0 hlen (WT.use (h _ (hs.fresh (Nat.le_refl _))) (Steps.rfl.to _ _) S₁ fun vs σ' s' st S' ⟨es, e1, e2, e3, e4⟩ => ?_)
  obtain ⟨kvs, k1, k2⟩ := carry_s (w := c.w) e1
  obtain ⟨kv0, hd, h0⟩ := S'.sdict e3
  obtain rfl : kv0 = [] := by cases kv0 with | nil => rfl | cons _ _ => cases h0
  refine ⟨kvs, k1, hd, fun h' hd' hb => .of (st.to h' _) ?_ e4⟩
  obtain ⟨ob, g, hd''⟩ := Heap.dictOf_iff.mp hd'
  have hn : (kvs.map (·.1)).Nodup := by rw [← keys_er, k2]; exact e2
  exact S'.set hb e3 g ⟨kvs, by rw [merged_nil_of_nodup _ hn] at hd''; exact hd'', k2⟩
theorem E_bdict (C : c.Ok) {keys : List (Option Expr)} {values : List Expr} {pos : Pos} (hall : keys.all (·.isSome) = true) (hl : keys.length = values.length) (h0 : keys ≠ []) (hlen : keys.length ≤ 15)
    (h : ∀ d, σ d = none → WDict c loc (upd σ d (.bd [])) keys values pos (fun l σ' => ∃ es : List (List UInt8 × MV), l = es.map (fun p => (MV.bytes p.1, p.2)) ∧ (es.map (·.1)).Nodup ∧ σ' d = some (.bd []) ∧ Q (.ref d) (upd σ' d (.bd es))) X) : WE c loc σ (eval (.Dict keys values pos) c.env) Q X := fun s hs => by
  have S₁ : Sim c loc (upd σ s.heap.objs.size (.bd [])) (s.heap.push emptyDict) := hs.push C rfl ⟨[], ⟨_, _, ⟨rfl, rfl, rfl⟩, rfl, fun e he => by simp at he, .nil, List.nodup_nil⟩, rfl⟩
  refine wpAny_Dict_walk (knd := bytesKind pw c.w) hall hl h0 hlen (WT.use (h _ (hs.fresh (Nat.le_refl _))) (Steps.rfl.to _ _) S₁ fun vs σ' s' st S' ⟨es, e1, e2, e3, e4⟩ => ?_)
  obtain ⟨kvs, k1, k2⟩ := carry_b (w := c.w) e1
  obtain ⟨kv0, hd, h0⟩ := S'.bdict e3
  obtain rfl : kv0 = [] := by cases kv0 with | nil => rfl | cons _ _ => cases h0
  refine ⟨kvs, k1, hd, fun h' hd' hb => .of (st.to h' _) ?_ e4⟩
  obtain ⟨ob, g, hd''⟩ := Heap.dictOf_iff.mp hd'
  have hn : (kvs.map (·.1)).Nodup := by rw [← keys_er, k2]; exact e2
  exact S'.set hb e3 g ⟨kvs, by rw [merged_nil_of_nodup _ hn] at hd''; exact hd'', k2⟩
/- comparisons of whole dicts and lists -/
theorem eqAt_er {A : Around} {s : Shared} {u v : Value} {m : MV} (hu : er u = m) (hv : er v = m) (hm : (∃ i, m = .int i) ∨ (∃ b, m = .bytes b) ∨ m = .none) : SeqAt.EqAt A s u v true := by
  rcases hm with ⟨i, rfl⟩ | ⟨b, rfl⟩ | rfl
  · obtain ⟨t, rfl⟩ := er_int hu; obtain ⟨t', rfl⟩ := er_int hv
    have := SeqAt.EqAt.int_int (A := A) (s := s) i t i t'
    simpa using this
  · obtain ⟨t, rfl⟩ := er_bytes hu; obtain ⟨t', rfl⟩ := er_bytes hv
    have := eqAt_bytes (A := A) (s := s) (b := b.toArray) (c := b.toArray) (t := t) (u := t')
    simpa using this
  · rw [er_none hu, er_none hv]; exact SeqAt.EqAt.same _
noncomputable def MV.cmp (m : MV) : Prop := (∃ i, m = .int i) ∨ (∃ b, m = .bytes b) ∨ m = .none
theorem hits_of {A : Around} {s : Shared} {K' : Type} [DecidableEq K'] {kb : List (K' × Value)} (hn : (kb.map (·.1)).Nodup) : ∀ {ka : List (K' × Value)}, (∀ p ∈ ka, ∃ v, valueAt kb p.1 = some v ∧ er v = er p.2 ∧ (er p.2).cmp) → KeqHits A s kb ka true
  | [], _ => .nil
  | (k, v) :: r, h => by
    obtain ⟨y, h1, h2, h3⟩ := h (k, v) (.head _)
    have := KeqHits.hit (A := A) (s := s) (e := true) h1 (eqAt_er rfl h2 h3) (hits_of hn fun p hp => h p (.tail _ hp))
    exact this
theorem o_ne_bd_same (C : c.Ok) {es : List (List UInt8 × MV)} {b : Addr} (q : σ a = some (.bd es)) (q' : σ b = some (.bd es)) (hc : ∀ p ∈ es, p.2.cmp) (h : Q (.bool false) σ) : Op2 c loc σ (compareOp .NotEq) (.ref a) (.ref b) Q X := fun u v hu hv s hs => by
  rw [er_ref hu, er_ref hv]
  obtain ⟨ka, da, ea⟩ := hs.bdict q
  obtain ⟨kb, db, eb⟩ := hs.bdict q'
  have hn : (kb.map (·.1)).Nodup := let ⟨_, _, _, _, _, _, _, _, hn⟩ := db; hn
  have hl : ka.length = kb.length := by have := congrArg List.length (ea.trans eb.symm); simpa using this
  refine keq_ne (r := true) (hs.notSys C q) (hs.notSys C q') da db (units_lt C) (fun _ => hits_of hn fun p hp => ?_) (.here hs ?_)
  · have hm : er2 p ∈ es := ea ▸ List.mem_map_of_mem hp
    have hg : getK (kb.map er2) p.1 = some (er p.2) := getK_mem (by rw [keys_er]; exact hn) (by rw [eb]; exact hm)
    obtain ⟨v, h1, h2⟩ := valueAt_of hg
    exact ⟨v, h1, h2, hc _ hm⟩
  · rw [hl]; simpa [er] using h
theorem o_eq_list_same (C : c.Ok) {xs : List MV} {b : Addr} (q : σ a = some (.list xs)) (q' : σ b = some (.list xs)) (hc : ∀ p ∈ xs, p.cmp) (h : Q (.bool true) σ) : Op2 c loc σ (compareOp .Eq) (.ref a) (.ref b) Q X := fun u v hu hv s hs => by
  rw [er_ref hu, er_ref hv]
  obtain ⟨vs, n, g, e⟩ := hs.lst q
  obtain ⟨vs', n', g', e'⟩ := hs.lst q'
  have hz := map_size e; have hz' := map_size e'
  refine SeqAt.eq_listAt (e := fun _ => true) (listAt g) (listAt g') (by rw [hz, hz']) (units_lt C) (fun j h1 h2 => ?_) (.here hs (by rw [show ((List.range vs.size).all fun _ => true) = true from List.all_eq_true.mpr fun _ _ => rfl]; exact h))
  have hj : j < xs.length := hz ▸ h1
  have k1 : er vs[j] = xs[j] := by have := congrArg (·[j]?) e; simpa [h1, hj] using this
  have k2 : er vs'[j] = xs[j] := by have := congrArg (·[j]?) e'; simpa [h2, hj] using this
  exact eqAt_er k1 k2 (hc _ (List.getElem_mem hj))
theorem o_nebool {a b : Bool} (h : Q (.bool (a != b)) σ) : Op2 c loc σ (compareOp .NotEq) (.bool a) (.bool b) Q X := fun u v hu hv => by
  rw [er_bool hu, er_bool hv]
  exact fun s hs => ne_bool (.here hs h)
end
end
end Mine
end
section
set_option maxHeartbeats 400000
namespace Mine
noncomputable section
section
variable {w : World} {A : Around} {E : Value → Shared → Prop}
theorem keys_list : typeLookup (.type "list") "keys" = pure none := by rw [typeLookup_type, builtinLookup_eq_fast]; kernel_rfl
theorem keys_miss {s : Shared} {a : Addr} {xs : Array Value} {k : Nat} {Q : Option Value → Shared → Prop} (hx : s.heap.get? a = some (W.listOf xs k)) (hA : A.handled = none)
    (h : ∀ h' tk, (∀ b o, s.heap.get? b = some o → h'.get? b = some o) → Q none { s with heap := h', toks := tk }) : wpAny (model pw w) A (getAttr? (.ref a) "keys") Q E s := by
  obtain ⟨hp, g, d, tk, os⟩ := s
  have hT : ∀ hh gg dd tt oo, hh.get? a = some (W.listOf xs k) → (⟨hh, gg, dd, tt, oo⟩ : Shared).TypeIs (.ref a) "list" := fun _ _ _ _ _ e => ⟨_, e, rfl⟩
  have f1 := sub_AttributeError
  have f3 := F.slot_list_getattribute.lookup
  have f4 := F.slot_list_getattribute.bind (.ref a)
  have f5 := am_list_getattr_none
  have hT0 : (⟨hp, g, d, tk + 1, os⟩ : Shared).TypeIs (.ref a) "list" := hT _ _ _ _ _ hx
  unfold getAttr? getAttrBy? getAttrBy
  repeat (any_goals (first | assumption | ((with_reducible show wpAny _ _ (call (Value.builtin "list.__getattribute__") _ _) _ _ _); refine call_meets F.slot_list_getattribute (hT _ _ _ _ _ hx) am_entry_list_getattribute (F.args_list_getattribute_2 _ _) (meets_getattribute_miss_list a xs k #[] "keys" _ keys_list (by decide +kernel) (by size_fits)) ⟨hx, hA, fun h' tk' e hx => ?_⟩) | wp_step))
  obtain ⟨t', u', he⟩ := hx.there
  show wpAny _ _ (getattributeRaised _ _ _ _ _ _ _) _ _ _
  unfold getattributeRaised
  repeat (any_goals (first | assumption | wp_step))
  exact h _ _ hx.keeps
theorem entry_dul : entryFor table "dict.update.loop" = some Builtin.«dict.update.loop» := by first | exact entryFor_of_fast (by kernel_rfl) | exact entryFor_of_tree (by kernel_rfl)
theorem plain_dul : plainId "dict.update.loop" = true := by decide +kernel
theorem dul_loop {l I d : Addr} {vs : Array Value} {ps : List (List UInt8 × Value)} {R : Result → Shared → Prop} (hh : A.handled = none) (hz : vs.size ≤ 1000) (hps : ps.length = vs.size) (hlI : l ≠ I) (hld : l ≠ d) (hId : I ≠ d) :
    ∀ (k i : Nat) (s : Shared) (kvs : List (List UInt8 × Value)), k = vs.size - i → i ≤ vs.size → kvs.length ≤ i → s.heap.IsList l vs → s.heap.IsListIter I l i → s.heap.DictOf (bytesKind pw w) d kvs →
      (∀ (j : Nat) (p : List UInt8 × Value), ps[j]? = some p → ∃ (t : Addr) (ky : Value), vs[j]? = some (Value.ref t) ∧ t ≠ I ∧ t ≠ d ∧ IsTup s.heap t #[ky, p.2] ∧ (bytesKind pw w).is p.1 ky = true) →
      (∀ h' tk, h'.DictOf (bytesKind pw w) d (merged kvs (ps.drop i)) → (∀ b o, b ≠ I → b ≠ d → s.heap.get? b = some o → h'.get? b = some o) → R (.ok (.ret .none)) { s with heap := h', toks := tk }) →
      codeAny (model pw w) A (.builtin "dict.update.loop" ⟨[.ref d, .ref I, rawInt i, .none], []⟩) R s := by
  intro k
  induction k with
  | zero =>
    intro i s kvs hk hi hkv hl hI hd hp hR
    obtain rfl : i = vs.size := by omega
    refine codeAny_builtin entry_dul ?_
    rw [Around.under_plainId plain_dul]
    unfold Builtin.«dict.update.loop»
    refine wpAny_bind (wpAny_pyNext_list_end (A := A.in1) hh hI hl (by simp) fun h' he => ?_)
    have : ps.drop vs.size = [] := List.drop_eq_nil_of_le (by omega)
    rw [this] at hR
    refine wpAny_bind (wpAny_pure ?_)
    exact wpAny_pure (hR h' _ (hd.extBut he hId.symm) fun b o hb _ e => he b o hb e)
  | succ k ih =>
    intro i s kvs hk hi hkv hl hI hd hp hR
    have hlt : i < vs.size := by omega
    have hlp : i < ps.length := by omega
    obtain ⟨t, ky, h1, h2, h3, h4, h5⟩ := hp i ps[i] (List.getElem?_eq_getElem hlp)
    refine codeAny_builtin entry_dul ?_
    rw [Around.under_plainId plain_dul]
    unfold Builtin.«dict.update.loop»
    refine wpAny_bind (wpAny_pyNext_list_item (A := A.in1) hI hl h1 fun h₁ hI₁ hb₁ => ?_)
    have h4' : IsTup h₁ t #[ky, ps[i].2] := h4.extBut hb₁.extBut h2
    have hd₁ : h₁.DictOf (bytesKind pw w) d kvs := hd.extBut hb₁.extBut hId.symm
    have hl₁ : h₁.IsList l vs := hl.extBut hb₁.extBut hlI
    dsimp only
    refine wpAny_bind (wpAny_holding (wpAny_bind (wpAny_tryCatch ?_)))
    unfold Builtin.Dict.pairItems
    refine wpAny_bind (wpAny_typeOf h4'.typeIs ?_)
    rw [if_pos (by decide)]
    obtain ⟨ot, g, _, nt, gd⟩ := id h4'
    refine wpAny_bind (wpAny_seqItems g gd (wpAny_pure ?_))
    refine wpAny_holding (wpAny_dictSet_pairs h5 hd₁ (fun h₂ hd₂ hb₂ => ?_) (lineUp (by omega)))
    refine wpAny_pure ⟨plainId_quiet plain_dul _, ?_⟩
    have hst : (stored kvs ps[i].1 ps[i].2).length ≤ i + 1 := by
      unfold stored
      split
      · simp; omega
      · simp; omega
    refine ih (i + 1) _ (stored kvs ps[i].1 ps[i].2) (by omega) (by omega) hst (hl₁.extBut hb₂.extBut hld) (hI₁.extBut hb₂.extBut hId) hd₂ (fun j p hj => ?_) fun h' tk hd' hk' => ?_
    · obtain ⟨t', ky', k1, k2, k3, k4, k5⟩ := hp j p hj
      exact ⟨t', ky', k1, k2, k3, (k4.extBut hb₁.extBut k2).extBut hb₂.extBut k3, k5⟩
    · refine hR h' tk ?_ fun b o hbI hbd e => hk' b o hbI hbd ((hb₂.2 b hbd).trans ((hb₁.2 b hbI).trans e))
      rw [List.drop_eq_getElem_cons hlp]
      exact hd'
theorem dict_made {s : Shared} {l : Addr} {vs : Array Value} {n : Nat} {ps : List (List UInt8 × Value)} {Q : Value → Shared → Prop} (hh : A.handled = none) (hz : vs.size ≤ 1000) (hps : ps.length = vs.size) (hl : s.heap.get? l = some (W.listOf vs n))
    (hp : ∀ (j : Nat) (p : List UInt8 × Value), ps[j]? = some p → ∃ (t : Addr) (ky : Value), vs[j]? = some (Value.ref t) ∧ IsTup s.heap t #[ky, p.2] ∧ (bytesKind pw w).is p.1 ky = true)
    (h : ∀ h' tk, h'.DictOf (bytesKind pw w) s.heap.objs.size (merged [] ps) → (∀ b o, s.heap.get? b = some o → h'.get? b = some o) → Q (.ref s.heap.objs.size) { s with heap := h', toks := tk }) :
    wpAny (model pw w) A (call (.type "dict") [.ref l]) Q E s := by
  refine callType_codes (Q₁ := fun obj s₁ => obj = .ref s.heap.objs.size ∧ s₁ = { s with heap := s.heap.push { cls := .type "dict", data := .dict #[] } }) F.kt_called_dict (F.kt_typeCall_dict_1 _) PySem.F.entry_dict_init (kt_code_dict_new _ ⟨rfl, rfl⟩) ?_
  rintro obj s₁ ⟨rfl, rfl⟩
  have hnew : (s.heap.push { cls := .type "dict", data := .dict #[] }).DictOf (bytesKind pw w) s.heap.objs.size [] := Heap.DictOf.new s.heap
  have hl' : (s.heap.push { cls := .type "dict", data := .dict #[] }).get? l = some (W.listOf vs n) := Heap.get?_push_of_some _ hl
  refine ⟨hnew.typeIs, PySem.F.args_dict_init_2 _ _, ?_⟩
  unfold Builtin.«dict.__init__»
  refine wpAny_bind ?_
  unfold Builtin.Dict.selfAndRest
  refine wpAny_bind (wpAny_notOrdered_dict hnew.typeIs ?_)
  show wpAny _ _ (pure (s.heap.objs.size, [Value.ref l])) _ _ _
  refine wpAny_pure ?_
  show wpAny _ _ (Builtin.Dict.updateFrom "dict.__init__" s.heap.objs.size (.ref l) [] .none) _ _ _
  unfold Builtin.Dict.updateFrom
  refine wpAny_bind (wpAny_typeOf (T := "list") ⟨_, hl', rfl⟩ ?_)
  rw [if_pos (by decide)]
  refine wpAny_bind (keys_miss (s := { s with heap := s.heap.push { cls := .type "dict", data := .dict #[] } }) hl' hh fun h₁ tk k₁ => ?_)
  rw [if_pos (by rfl)]
  have hl₁ : h₁.IsList l vs := ⟨_, k₁ _ _ hl', rfl, n, rfl⟩
  have hd₁ : h₁.DictOf (bytesKind pw w) s.heap.objs.size [] := hnew.keep k₁
  have lt : s.heap.objs.size < h₁.objs.size := by
    obtain ⟨_, _, _, g, _⟩ := hd₁; exact Heap.lt_size g
  have kk : ∀ b o, s.heap.get? b = some o → h₁.get? b = some o := fun b o e => k₁ b o (Heap.get?_push_of_some _ e)
  have ltl : l < s.heap.objs.size := Heap.lt_size hl
  refine wpAny_bind (wpAny_rule (wpAny_bind (wpAny_pyIter_list hl₁ ?_)))
  refine wpAny_pure ⟨plainId_quiet plain_dul _, ?_⟩
  refine dul_loop (A := A.in1) (l := l) (I := h₁.objs.size) (d := s.heap.objs.size) (vs := vs) (ps := ps) hh hz hps (Nat.ne_of_lt (Nat.lt_trans ltl lt)) (Nat.ne_of_lt ltl) (Nat.ne_of_gt lt) vs.size 0 { s with heap := h₁.push { cls := .type "list_iterator", data := .fields #[.ref l, .int 0 0] }, toks := tk } [] rfl (Nat.zero_le _) (Nat.zero_le _) (hl₁.push _) ⟨_, Heap.get?_push_size _ rfl, rfl, rfl⟩ (hd₁.keep fun b o e => Heap.get?_push_of_some _ e) (fun j p hj => ?_) fun h' tk' hd' hk' => ?_
  · obtain ⟨t, ky, q1, q2, q3⟩ := hp j p hj
    have ltt : t < s.heap.objs.size := by obtain ⟨_, g, _⟩ := q2; exact Heap.lt_size g
    exact ⟨t, ky, q1, Nat.ne_of_lt (Nat.lt_trans ltt lt), Nat.ne_of_lt ltt, (q2.keeps kk).push _, q3⟩
  · rw [List.drop_zero] at hd'
    exact ⟨rfl, h h' tk' hd' fun b o e => hk' b o (Nat.ne_of_lt (Nat.lt_trans (Heap.lt_size e) lt)) (Nat.ne_of_lt (Heap.lt_size e)) (Heap.get?_push_of_some _ (kk b o e))⟩
end
section
variable {c : Cx} {loc : Loc} {σ : MHeap} {α β : Type} {X : MV → MHeap → Prop} {Q : MV → MHeap → Prop} {h h' : Heap} {a d : Addr} {Kt : MF → Loc → MHeap → Prop}
/- dict of a list of pairs, all at hand in the small heap -/
theorem c_dict (C : c.Ok) (hh : c.A.handled = none) {ts : List Addr} {es : List (List UInt8 × MV)} (q : σ a = some (.list (ts.map .ref))) (hz : ts.length ≤ 1000) (hl : ts.length = es.length) (hn : (es.map (·.1)).Nodup)
    (ht : ∀ (j : Nat) (t : Addr) (p : List UInt8 × MV), ts[j]? = some t → es[j]? = some p → σ t = some (.tup [.bytes p.1, p.2])) (h : Made σ (.bd es) Q) : CallR c loc σ (ty "dict") [.ref a] Q X := fun u us hu hus s hs => by
  obtain ⟨v, rfl, hv⟩ := of1 hus
  rw [er_cst hu, er_ref hv]
  obtain ⟨vs, n, g, e⟩ := hs.lst q
  have hsz : vs.size = ts.length := by rw [map_size e, List.length_map]
  have hv' : ∀ (j : Nat) (t : Addr), ts[j]? = some t → vs[j]? = some (Value.ref t) := fun j t hj => by
    obtain ⟨u, k1, k2⟩ := map_at e (i := j) (v := .ref t) (by rw [List.getElem?_map, hj]; rfl)
    rw [k1, er_ref k2]
  have tup : ∀ j : Fin es.length, ∃ kv : Value × Value, IsTup s.heap (ts[j.1]'(by omega)) #[kv.1, kv.2] ∧ er kv.1 = .bytes es[j.1].1 ∧ er kv.2 = es[j.1].2 := fun j => by
    obtain ⟨_, _, _, _, ob, g, vs', n', rfl, e'⟩ := hs.hr _ _ (ht j.1 (ts[j.1]'(by omega)) es[j.1] (List.getElem?_eq_getElem _) (List.getElem?_eq_getElem _))
    obtain ⟨l'⟩ := vs'
    obtain ⟨ky, vv, rfl, e1, e2⟩ := of2 e'
    exact ⟨(ky, vv), ⟨_, g, rfl, n', rfl⟩, e1, e2⟩
  obtain ⟨f, tf⟩ := Classical.axiomOfChoice tup
  let ps : List (List UInt8 × Value) := List.ofFn fun j : Fin es.length => (es[j.1].1, (f j).2)
  have hpl : ps.length = vs.size := by simp [ps, hsz, hl]
  have hpe : ps.map er2 = es := by
    apply List.ext_getElem
    · simp [ps]
    · intro j h1 h2
      have := (tf ⟨j, h2⟩).2.2
      simp [ps, er2, this]
  refine dict_made (ps := ps) hh (by omega) hpl g (fun j p hj => ?_) fun h' tk hd hk => ?_
  · obtain ⟨hj1, rfl⟩ := List.getElem?_eq_some_iff.mp hj
    have hj2 : j < es.length := by simpa [ps] using hj1
    have hj3 : j < ts.length := by omega
    refine ⟨ts[j], (f ⟨j, hj2⟩).1, hv' j _ (List.getElem?_eq_getElem hj3), by simpa [ps] using (tf ⟨j, hj2⟩).1, ?_⟩
    obtain ⟨t, ht⟩ := er_bytes (tf ⟨j, hj2⟩).2.1
    rw [ht]
    simp only [ps, List.getElem_ofFn]
    exact isB _ _
  · obtain ⟨ob, g', hd'⟩ := Heap.dictOf_iff.mp hd
    have hn' : (ps.map (·.1)).Nodup := by rw [← keys_er, hpe]; exact hn
    rw [merged_nil_of_nodup _ hn'] at hd'
    exact .at ((hs.grow hk).adopt (o := .bd es) (hs.apart C (Nat.le_refl _)) g' ⟨ps, hd', hpe⟩) (h _ (hs.fresh (Nat.le_refl _)))
end
end
end Mine
end
section
set_option maxHeartbeats 400000
namespace Mine
noncomputable section
section
variable {w : World} {A : Around} {E : Value → Shared → Prop}
theorem int_nobytes : typeLookup (.type "int") "__bytes__" = pure none := by rw [typeLookup_type, builtinLookup_eq_fast]; kernel_rfl
theorem bytes0 {s : Shared} {t : Tok} {Q : Value → Shared → Prop} (h : ∀ t' k, Q (.bytes #[] t') { s with toks := k }) : wpAny (model pw w) A (call (.type "bytes") [.int 0 t]) Q E s := by
  refine callType_codes (Q₁ := fun obj s₁ => s₁.TypeIs obj "bytes" ∧ Q obj s₁) F.bm_called (F.bm_typeCall _) F.entry_object_init ?_ fun obj s₁ h₁ => ?_
  · refine codeAny_of_tree ?_
    show wpAny _ A.in1.in1 (do checkBuiltinCall "bytes.__new__" ⟨[.type "bytes", .int 0 t], []⟩; again (.builtin "bytes.__new__" ⟨[.type "bytes", .int 0 t], []⟩)) _ _ s
    refine wpAny_bind (wpAny_of_eq (F.bm_newCall _) (wpAny_pure ⟨plainId_quiet F.bm_plain _, codeAny_builtin F.bm_entry ?_⟩))
    rw [Around.under_plainId F.bm_plain _]
    have hT : ∀ s' : Shared, s'.TypeIs (.int 0 t) "int" := fun s' => typeIs_int s' 0 t
    have f1 := int_nobytes
    have f2 := int_index
    unfold Builtin.«bytes.__new__»
    refine wpAny_bind (wpAny_of_eq (a := true) rfl ?_)
    refine bm_if_false rfl ?_
    refine wpAny_bind (wpAny_of_eq F.bm_sub ?_)
    refine bm_if_false rfl ?_
    refine wpAny_bind (wpAny_of_eq (F.bm_bind _) ?_)
    refine wpAny_bind (wpAny_of_eq (a := ()) rfl ?_)
    refine wpAny_bind (wpAny_of_eq (a := ()) rfl ?_)
    refine bm_if_false rfl ?_
    refine wpAny_bind (wpAny_specialOf (hT s) f1 ?_)
    refine wpAny_bind (wpAny_of_eq (a := false) rfl ?_)
    refine bm_if_false rfl ?_
    refine wpAny_bind (wpAny_specialOf (hT s) f2 ?_)
    refine bm_if_false rfl ?_
    refine wpAny_bind (wpAny_attempt (wpAny_of_eq (a := (0 : Int)) rfl ?_))
    dsimp only
    refine bm_if_false (by decide) ?_
    rw [if_neg (by decide), if_neg (by decide)]
    refine bm_if_false (by decide) ?_
    refine wpAny_bind (wpAny_rule (wpAny_bind (wpAny_mkBytes ?_ (Nat.zero_le _))))
    refine bm_if_true rfl ?_
    first
      | exact wpAny_pure ⟨PySem.W.typeIs_bytes _ _ _, h _ _⟩
      | exact wpAny_bind (wpAny_pure (wpAny_pure ⟨PySem.W.typeIs_bytes _ _ _, h _ _⟩))
  · exact ⟨h₁.1, F.args_object_init_2 obj _, object_init_meets F.bm_called.init.lookup F.bm_called.made (by decide) pw w A.in1 _ s₁ ⟨h₁.1, rfl, h₁.2⟩⟩
end
section
variable {c : Cx} {loc : Loc} {σ : MHeap} {α β : Type} {X : MV → MHeap → Prop} {Q : MV → MHeap → Prop} {h h' : Heap} {a d : Addr} {Kt : MF → Loc → MHeap → Prop}
theorem c_bytes0 (h : Q (.bytes []) σ) : CallR c loc σ (ty "bytes") [.int 0] Q X := fun u us hu hus s hs => by
  obtain ⟨v, rfl, hv⟩ := of1 hus
  obtain ⟨t, rfl⟩ := er_int hv
  rw [er_cst hu]
  exact bytes0 fun t' k => .tok hs h
theorem intsAre_of : ∀ {vs : List Value} {ns : List Int}, vs.map er = ns.map .int → IntsAre vs ns
  | [], [], _ => .nil
  | [], _ :: _, h => by cases h
  | _ :: _, [], h => by cases h
  | v :: r, n :: q, h => by
    rw [List.map_cons, List.map_cons, List.cons.injEq] at h
    obtain ⟨t, rfl⟩ := er_int h.1
    exact .cons n t (intsAre_of h.2)
theorem c_bytes (H : c.A.handled = none) {bs : List UInt8} (q : σ a = some (.list (bs.map fun b => .int b.toNat))) (hz : bs.length ≤ 1000) (h : Q (.bytes bs) σ) : CallR c loc σ (ty "bytes") [.ref a] Q X := fun u us hu hus s hs => by
  obtain ⟨v, rfl, hv⟩ := of1 hus
  rw [er_cst hu, er_ref hv]
  obtain ⟨vs, n, g, e⟩ := hs.lst q
  have hi : IntsAre vs.toList (bs.map fun b => (b.toNat : Int)) := intsAre_of (by rw [e, List.map_map]; rfl)
  have hb : byteArr (bs.map fun b => (b.toNat : Int)) = bs.toArray := by
    unfold byteArr
    rw [List.map_map]
    congr 1
    conv => rhs; rw [← List.map_id bs]
    apply List.map_congr_left
    intro b _
    simp
  have hl : s.heap.IsList a vs.toList.toArray := by rw [Array.toArray_toList]; exact listAt g
  refine call_bytes_ints hl hi (fun n hn => ?_) (lineUp (by rw [hi.length, List.length_map]; omega)) H fun h' t k hk => .at (hs.grow hk) (by rw [hb]; simpa [er] using h)
  obtain ⟨b, _, rfl⟩ := List.mem_map.mp hn
  have := b.toNat_lt
  omega
theorem E_callsub (C : c.Ok) {v sl : Expr} {sp pos : Pos} {e : Expr} {r : List Expr} (h : WE c loc σ (eval (.Subscript v sl sp) c.env) (fun f σ₁ => keepOk (K c.w.params) f = true ∧ WArgs c loc σ₁ pos (e :: r) (fun vs σ₂ => CallR c loc σ₂ f vs Q X) X) X)
    (hp : (backTo pos (starEach (e :: r) c.env)).any (·.1) = false) (he : starEach (e :: r) c.env = (false, eval e c.env) :: starEach r c.env) : WE c loc σ (eval (.Call (.Subscript v sl sp) (e :: r) [] pos) c.env) Q X := fun s hs => by
  show wpAny _ _ (do callWith pos (← eval (.Subscript v sl sp) c.env) [] (backTo pos (starEach (e :: r) c.env)) (backToKw pos (keywordEach [] c.env))) _ _ s
  exact wpAny_bind (h.use .rfl hs fun f σ₁ s₁ st₁ S₁ h₁ => (callWith_W (first := []) C h₁.1 h₁.2 hp he rfl rfl).run st₁ S₁)
theorem S_while {t : Expr} {body : List Stmt} {pos : Pos} (J : Nat → Loc → MHeap → Prop) (k : Nat) (j : J k loc σ)
    (turn : ∀ n l σ, J n l σ → WB c l σ t (fun b σ' => if b = true then WS c l σ' body (fun f l' σ'' => match f with | .next => ∃ m, m < n ∧ J m l' σ'' | .cont => ∃ m, m < n ∧ J m l' σ'' | .brk => Kt .next l' σ'' | .ret v => Kt (.ret v) l' σ'') (fun _ _ => False) else Kt .next l σ') (fun _ _ => False)) : W1 c loc σ (.While t body [] pos) Kt X := fun s hs => by
  refine wpAny_While (codeAny_whileLoop (fun n s' => ∃ l σ', J n l σ' ∧ Sim c l σ' s'.heap ∧ Steps s s') ?_ k ⟨loc, σ, j, hs, .rfl⟩)
  rintro n s' ⟨l, σ', j', S, st⟩
  refine (turn n l σ' j').free S fun b σ₁ s₁ st₁ S₁ h₁ => ?_
  cases b with
  | false => exact wpAny_execs_nil (.of (st.trans st₁) S₁ h₁)
  | true =>
    refine WL.free h₁ S₁ fun f l₂ σ₂ s₂ st₂ S₂ q => ?_
    have stf := (st.trans st₁).trans st₂
    cases f with
    | next => obtain ⟨m, h1, h2⟩ := q; exact ⟨m, h1, l₂, σ₂, h2, S₂, stf⟩
    | cont => obtain ⟨m, h1, h2⟩ := q; exact ⟨m, h1, l₂, σ₂, h2, S₂, stf⟩
    | brk => exact .of stf S₂ q
    | ret v => exact .of stf S₂ q
end
end
end Mine
end
section
set_option maxHeartbeats 400000
namespace Mine
noncomputable section
theorem len0 {us : List Value} (hl : us.length = 0) : us = [] := List.eq_nil_of_length_eq_zero hl
theorem len1 {us : List Value} (hl : us.length = 1) : ∃ a, us = [a] := by
  obtain ⟨a, r, rfl⟩ := List.exists_cons_of_length_eq_add_one hl
  rw [List.eq_nil_of_length_eq_zero (Nat.succ.inj hl)]
  exact ⟨a, rfl⟩
theorem len2 {us : List Value} (hl : us.length = 2) : ∃ a b, us = [a, b] := by
  obtain ⟨a, r, rfl⟩ := List.exists_cons_of_length_eq_add_one hl
  obtain ⟨b, rfl⟩ := len1 (Nat.succ.inj hl)
  exact ⟨a, b, rfl⟩
theorem len3 {us : List Value} (hl : us.length = 3) : ∃ a b c, us = [a, b, c] := by
  obtain ⟨a, r, rfl⟩ := List.exists_cons_of_length_eq_add_one hl
  obtain ⟨b, c, rfl⟩ := len2 (Nat.succ.inj hl)
  exact ⟨a, b, c, rfl⟩
theorem len4 {us : List Value} (hl : us.length = 4) : ∃ a b c d, us = [a, b, c, d] := by
  obtain ⟨a, r, rfl⟩ := List.exists_cons_of_length_eq_add_one hl
  obtain ⟨b, c, d, rfl⟩ := len3 (Nat.succ.inj hl)
  exact ⟨a, b, c, d, rfl⟩
theorem len5 {us : List Value} (hl : us.length = 5) : ∃ a b c d e, us = [a, b, c, d, e] := by
  obtain ⟨a, r, rfl⟩ := List.exists_cons_of_length_eq_add_one hl
  obtain ⟨b, c, d, e, rfl⟩ := len4 (Nat.succ.inj hl)
  exact ⟨a, b, c, d, e, rfl⟩
theorem len6 {us : List Value} (hl : us.length = 6) : ∃ a b c d e f, us = [a, b, c, d, e, f] := by
  obtain ⟨a, r, rfl⟩ := List.exists_cons_of_length_eq_add_one hl
  obtain ⟨b, c, d, e, f, rfl⟩ := len5 (Nat.succ.inj hl)
  exact ⟨a, b, c, d, e, f, rfl⟩
theorem fn76 (P : Params) : FnAt P 76 (mdef 8 1) (S "PsFile.begin") .none (.str (S "postcore.files") 241) 75 [S "self", S "number", S "name", S "can_read", S "can_write"] :=
  ⟨by kernel_rfl, by kernel_rfl, fun us e s k => by obtain ⟨a0, a1, a2, a3, a4, rfl⟩ := len5 e; exact .of_eq rfl, by decide +kernel, by kernel_rfl, by kernel_rfl, by kernel_rfl, by kernel_rfl, by kernel_rfl⟩
theorem fn97 (P : Params) : FnAt P 97 (mdef 8 4) (S "PsFile.next") .none (.str (S "postcore.files") 241) 96 [S "self"] :=
  ⟨by kernel_rfl, by kernel_rfl, fun us e s k => by obtain ⟨a0, rfl⟩ := len1 e; exact .of_eq rfl, by decide +kernel, by kernel_rfl, by kernel_rfl, by kernel_rfl, by kernel_rfl, by kernel_rfl⟩
theorem fn111 (P : Params) : FnAt P 111 (mdef 8 6) (S "PsFile.check_open") .none (.str (S "postcore.files") 241) 110 [S "self", S "is_to_read"] :=
  ⟨by kernel_rfl, by kernel_rfl, fun us e s k => by obtain ⟨a0, a1, rfl⟩ := len2 e; exact .of_eq rfl, by decide +kernel, by kernel_rfl, by kernel_rfl, by kernel_rfl, by kernel_rfl, by kernel_rfl⟩
theorem fn118 (P : Params) : FnAt P 118 (mdef 8 7) (S "PsFile.read") .none (.str (S "postcore.files") 241) 117 [S "self", S "many"] :=
  ⟨by kernel_rfl, by kernel_rfl, fun us e s k => by obtain ⟨a0, a1, rfl⟩ := len2 e; exact .of_eq rfl, by decide +kernel, by kernel_rfl, by kernel_rfl, by kernel_rfl, by kernel_rfl, by kernel_rfl⟩
theorem fn132 (P : Params) : FnAt P 132 (mdef 8 9) (S "PsFile.write") .none (.str (S "postcore.files") 241) 131 [S "self", S "octets"] :=
  ⟨by kernel_rfl, by kernel_rfl, fun us e s k => by obtain ⟨a0, a1, rfl⟩ := len2 e; exact .of_eq rfl, by decide +kernel, by kernel_rfl, by kernel_rfl, by kernel_rfl, by kernel_rfl, by kernel_rfl⟩
theorem fn153 (P : Params) : FnAt P 153 (mdef 8 12) (S "PsFile.close") .none (.str (S "postcore.files") 241) 152 [S "self"] :=
  ⟨by kernel_rfl, by kernel_rfl, fun us e s k => by obtain ⟨a0, rfl⟩ := len1 e; exact .of_eq rfl, by decide +kernel, by kernel_rfl, by kernel_rfl, by kernel_rfl, by kernel_rfl, by kernel_rfl⟩
theorem fn195 (P : Params) : FnAt P 195 (mdef 9 0) (S "OctetReader.__init__") .none (.str (S "postcore.files") 241) 194 [S "self", S "number", S "name", S "octets"] :=
  ⟨by kernel_rfl, by kernel_rfl, fun us e s k => by obtain ⟨a0, a1, a2, a3, rfl⟩ := len4 e; exact .of_eq rfl, by decide +kernel, by kernel_rfl, by kernel_rfl, by kernel_rfl, by kernel_rfl, by kernel_rfl⟩
theorem fn202 (P : Params) : FnAt P 202 (mdef 9 1) (S "OctetReader.fetch") .none (.str (S "postcore.files") 241) 201 [S "self"] :=
  ⟨by kernel_rfl, by kernel_rfl, fun us e s k => by obtain ⟨a0, rfl⟩ := len1 e; exact .of_eq rfl, by decide +kernel, by kernel_rfl, by kernel_rfl, by kernel_rfl, by kernel_rfl, by kernel_rfl⟩
theorem fn216 (P : Params) : FnAt P 216 (mdef 9 3) (S "OctetReader.position") .none (.str (S "postcore.files") 241) 215 [S "self"] :=
  ⟨by kernel_rfl, by kernel_rfl, fun us e s k => by obtain ⟨a0, rfl⟩ := len1 e; exact .of_eq rfl, by decide +kernel, by kernel_rfl, by kernel_rfl, by kernel_rfl, by kernel_rfl, by kernel_rfl⟩
theorem fn223 (P : Params) : FnAt P 223 (mdef 9 4) (S "OctetReader.set_position") .none (.str (S "postcore.files") 241) 222 [S "self", S "place"] :=
  ⟨by kernel_rfl, by kernel_rfl, fun us e s k => by obtain ⟨a0, a1, rfl⟩ := len2 e; exact .of_eq rfl, by decide +kernel, by kernel_rfl, by kernel_rfl, by kernel_rfl, by kernel_rfl, by kernel_rfl⟩
theorem fn242 (P : Params) : FnAt P 242 (mdef 10 0) (S "DiskFile.__init__") .none (.str (S "postcore.files") 241) 241 [S "self", S "number", S "name", S "disk", S "can_read", S "is_appended"] :=
  ⟨by kernel_rfl, by kernel_rfl, fun us e s k => by obtain ⟨a0, a1, a2, a3, a4, a5, rfl⟩ := len6 e; exact .of_eq rfl, by decide +kernel, by kernel_rfl, by kernel_rfl, by kernel_rfl, by kernel_rfl, by kernel_rfl⟩
theorem fn249 (P : Params) : FnAt P 249 (mdef 10 1) (S "DiskFile.fetch") .none (.str (S "postcore.files") 241) 248 [S "self"] :=
  ⟨by kernel_rfl, by kernel_rfl, fun us e s k => by obtain ⟨a0, rfl⟩ := len1 e; exact .of_eq rfl, by decide +kernel, by kernel_rfl, by kernel_rfl, by kernel_rfl, by kernel_rfl, by kernel_rfl⟩
theorem fn256 (P : Params) : FnAt P 256 (mdef 10 2) (S "DiskFile.put") .none (.str (S "postcore.files") 241) 255 [S "self", S "octets"] :=
  ⟨by kernel_rfl, by kernel_rfl, fun us e s k => by obtain ⟨a0, a1, rfl⟩ := len2 e; exact .of_eq rfl, by decide +kernel, by kernel_rfl, by kernel_rfl, by kernel_rfl, by kernel_rfl, by kernel_rfl⟩
theorem fn270 (P : Params) : FnAt P 270 (mdef 10 4) (S "DiskFile.position") .none (.str (S "postcore.files") 241) 269 [S "self"] :=
  ⟨by kernel_rfl, by kernel_rfl, fun us e s k => by obtain ⟨a0, rfl⟩ := len1 e; exact .of_eq rfl, by decide +kernel, by kernel_rfl, by kernel_rfl, by kernel_rfl, by kernel_rfl, by kernel_rfl⟩
theorem fn277 (P : Params) : FnAt P 277 (mdef 10 5) (S "DiskFile.set_position") .none (.str (S "postcore.files") 241) 276 [S "self", S "place"] :=
  ⟨by kernel_rfl, by kernel_rfl, fun us e s k => by obtain ⟨a0, a1, rfl⟩ := len2 e; exact .of_eq rfl, by decide +kernel, by kernel_rfl, by kernel_rfl, by kernel_rfl, by kernel_rfl, by kernel_rfl⟩
theorem fn296 (P : Params) : FnAt P 296 (mdef 11 0) (S "StandardOut.__init__") .none (.str (S "postcore.files") 241) 295 [S "self", S "number", S "name"] :=
  ⟨by kernel_rfl, by kernel_rfl, fun us e s k => by obtain ⟨a0, a1, a2, rfl⟩ := len3 e; exact .of_eq rfl, by decide +kernel, by kernel_rfl, by kernel_rfl, by kernel_rfl, by kernel_rfl, by kernel_rfl⟩
theorem fn329 (P : Params) : FnAt P 329 (fdef 12) (S "file_device_name") .none (.str (S "postcore.files") 241) 328 [S "name"] :=
  ⟨by kernel_rfl, by kernel_rfl, fun us e s k => by obtain ⟨a0, rfl⟩ := len1 e; exact .of_eq rfl, by decide +kernel, by kernel_rfl, by kernel_rfl, by kernel_rfl, by kernel_rfl, by kernel_rfl⟩
theorem fn351 (P : Params) : FnAt P 351 (mdef 13 1) (S "FileTable.new_number") .none (.str (S "postcore.files") 241) 350 [S "self"] :=
  ⟨by kernel_rfl, by kernel_rfl, fun us e s k => by obtain ⟨a0, rfl⟩ := len1 e; exact .of_eq rfl, by decide +kernel, by kernel_rfl, by kernel_rfl, by kernel_rfl, by kernel_rfl, by kernel_rfl⟩
theorem fn358 (P : Params) : FnAt P 358 (mdef 13 2) (S "FileTable.standard") .none (.str (S "postcore.files") 241) 357 [S "self", S "name", S "access"] :=
  ⟨by kernel_rfl, by kernel_rfl, fun us e s k => by obtain ⟨a0, a1, a2, rfl⟩ := len3 e; exact .of_eq rfl, by decide +kernel, by kernel_rfl, by kernel_rfl, by kernel_rfl, by kernel_rfl, by kernel_rfl⟩
theorem fn363 (P : Params) : FnAt P 363 (mdef 13 3) (S "FileTable.check_room") .none (.str (S "postcore.files") 241) 362 [S "self", S "name"] :=
  ⟨by kernel_rfl, by kernel_rfl, fun us e s k => by obtain ⟨a0, a1, rfl⟩ := len2 e; exact .of_eq rfl, by decide +kernel, by kernel_rfl, by kernel_rfl, by kernel_rfl, by kernel_rfl, by kernel_rfl⟩
theorem fn370 (P : Params) : FnAt P 370 (mdef 13 4) (S "FileTable.open") .none (.str (S "postcore.files") 241) 369 [S "self", S "told", S "access"] :=
  ⟨by kernel_rfl, by kernel_rfl, fun us e s k => by obtain ⟨a0, a1, a2, rfl⟩ := len3 e; exact .of_eq rfl, by decide +kernel, by kernel_rfl, by kernel_rfl, by kernel_rfl, by kernel_rfl, by kernel_rfl⟩
theorem fn382 (P : Params) : FnAt P 382 (mdef 13 6) (S "FileTable.size_of") .none (.str (S "postcore.files") 241) 381 [S "self", S "told"] :=
  ⟨by kernel_rfl, by kernel_rfl, fun us e s k => by obtain ⟨a0, a1, rfl⟩ := len2 e; exact .of_eq rfl, by decide +kernel, by kernel_rfl, by kernel_rfl, by kernel_rfl, by kernel_rfl, by kernel_rfl⟩
theorem fn389 (P : Params) : FnAt P 389 (mdef 13 7) (S "FileTable.known") .none (.str (S "postcore.files") 241) 388 [S "self", S "told"] :=
  ⟨by kernel_rfl, by kernel_rfl, fun us e s k => by obtain ⟨a0, a1, rfl⟩ := len2 e; exact .of_eq rfl, by decide +kernel, by kernel_rfl, by kernel_rfl, by kernel_rfl, by kernel_rfl, by kernel_rfl⟩
theorem fn396 (P : Params) : FnAt P 396 (mdef 13 8) (S "FileTable.delete") .none (.str (S "postcore.files") 241) 395 [S "self", S "told"] :=
  ⟨by kernel_rfl, by kernel_rfl, fun us e s k => by obtain ⟨a0, a1, rfl⟩ := len2 e; exact .of_eq rfl, by decide +kernel, by kernel_rfl, by kernel_rfl, by kernel_rfl, by kernel_rfl, by kernel_rfl⟩
theorem fn403 (P : Params) : FnAt P 403 (mdef 13 9) (S "FileTable.rename") .none (.str (S "postcore.files") 241) 402 [S "self", S "told", S "other"] :=
  ⟨by kernel_rfl, by kernel_rfl, fun us e s k => by obtain ⟨a0, a1, a2, rfl⟩ := len3 e; exact .of_eq rfl, by decide +kernel, by kernel_rfl, by kernel_rfl, by kernel_rfl, by kernel_rfl, by kernel_rfl⟩
theorem fn424 (P : Params) : FnAt P 424 (fdef 15) (S "_law_names") .none (.str (S "law_rh0181_01") 724) 423 [] :=
  ⟨by kernel_rfl, by kernel_rfl, fun us e s k => by obtain rfl := len0 e; exact .of_eq rfl, by decide +kernel, by kernel_rfl, by kernel_rfl, by kernel_rfl, by kernel_rfl, by kernel_rfl⟩
theorem fn433 (P : Params) : FnAt P 433 (fdef 18) (S "_law_draw") .none (.str (S "law_rh0181_01") 724) 432 [S "deck", S "below"] :=
  ⟨by kernel_rfl, by kernel_rfl, fun us e s k => by obtain ⟨a0, a1, rfl⟩ := len2 e; exact .of_eq rfl, by decide +kernel, by kernel_rfl, by kernel_rfl, by kernel_rfl, by kernel_rfl, by kernel_rfl⟩
theorem fn440 (P : Params) : FnAt P 440 (fdef 19) (S "_law_plain") .none (.str (S "law_rh0181_01") 724) 439 [S "told"] :=
  ⟨by kernel_rfl, by kernel_rfl, fun us e s k => by obtain ⟨a0, rfl⟩ := len1 e; exact .of_eq rfl, by decide +kernel, by kernel_rfl, by kernel_rfl, by kernel_rfl, by kernel_rfl, by kernel_rfl⟩
theorem fn447 (P : Params) : FnAt P 447 (fdef 20) (S "_law_has") .none (.str (S "law_rh0181_01") 724) 446 [S "own", S "row"] :=
  ⟨by kernel_rfl, by kernel_rfl, fun us e s k => by obtain ⟨a0, a1, rfl⟩ := len2 e; exact .of_eq rfl, by decide +kernel, by kernel_rfl, by kernel_rfl, by kernel_rfl, by kernel_rfl, by kernel_rfl⟩
theorem fn454 (P : Params) : FnAt P 454 (fdef 21) (S "_law_shut") .none (.str (S "law_rh0181_01") 724) 453 [S "own", S "number"] :=
  ⟨by kernel_rfl, by kernel_rfl, fun us e s k => by obtain ⟨a0, a1, rfl⟩ := len2 e; exact .of_eq rfl, by decide +kernel, by kernel_rfl, by kernel_rfl, by kernel_rfl, by kernel_rfl, by kernel_rfl⟩
theorem fn459 (P : Params) : FnAt P 459 (fdef 22) (S "_law_opened") .none (.str (S "law_rh0181_01") 724) 458 [S "deck", S "own", S "table"] :=
  ⟨by kernel_rfl, by kernel_rfl, fun us e s k => by obtain ⟨a0, a1, a2, rfl⟩ := len3 e; exact .of_eq rfl, by decide +kernel, by kernel_rfl, by kernel_rfl, by kernel_rfl, by kernel_rfl, by kernel_rfl⟩
theorem fn466 (P : Params) : FnAt P 466 (fdef 23) (S "_law_written") .none (.str (S "law_rh0181_01") 724) 465 [S "deck", S "own", S "row"] :=
  ⟨by kernel_rfl, by kernel_rfl, fun us e s k => by obtain ⟨a0, a1, a2, rfl⟩ := len3 e; exact .of_eq rfl, by decide +kernel, by kernel_rfl, by kernel_rfl, by kernel_rfl, by kernel_rfl, by kernel_rfl⟩
theorem fn473 (P : Params) : FnAt P 473 (fdef 24) (S "_law_read") .none (.str (S "law_rh0181_01") 724) 472 [S "deck", S "own", S "row"] :=
  ⟨by kernel_rfl, by kernel_rfl, fun us e s k => by obtain ⟨a0, a1, a2, rfl⟩ := len3 e; exact .of_eq rfl, by decide +kernel, by kernel_rfl, by kernel_rfl, by kernel_rfl, by kernel_rfl, by kernel_rfl⟩
theorem fn480 (P : Params) : FnAt P 480 (fdef 25) (S "_law_placed") .none (.str (S "law_rh0181_01") 724) 479 [S "deck", S "own", S "row"] :=
  ⟨by kernel_rfl, by kernel_rfl, fun us e s k => by obtain ⟨a0, a1, a2, rfl⟩ := len3 e; exact .of_eq rfl, by decide +kernel, by kernel_rfl, by kernel_rfl, by kernel_rfl, by kernel_rfl, by kernel_rfl⟩
theorem fn487 (P : Params) : FnAt P 487 (fdef 26) (S "_law_moved") .none (.str (S "law_rh0181_01") 724) 486 [S "deck", S "own", S "table"] :=
  ⟨by kernel_rfl, by kernel_rfl, fun us e s k => by obtain ⟨a0, a1, a2, rfl⟩ := len3 e; exact .of_eq rfl, by decide +kernel, by kernel_rfl, by kernel_rfl, by kernel_rfl, by kernel_rfl, by kernel_rfl⟩
theorem fn494 (P : Params) : FnAt P 494 (fdef 27) (S "_law_gone") .none (.str (S "law_rh0181_01") 724) 493 [S "deck", S "own", S "table"] :=
  ⟨by kernel_rfl, by kernel_rfl, fun us e s k => by obtain ⟨a0, a1, a2, rfl⟩ := len3 e; exact .of_eq rfl, by decide +kernel, by kernel_rfl, by kernel_rfl, by kernel_rfl, by kernel_rfl, by kernel_rfl⟩
theorem fn501 (P : Params) : FnAt P 501 (fdef 28) (S "_law_stands") .none (.str (S "law_rh0181_01") 724) 500 [S "file"] :=
  ⟨by kernel_rfl, by kernel_rfl, fun us e s k => by obtain ⟨a0, rfl⟩ := len1 e; exact .of_eq rfl, by decide +kernel, by kernel_rfl, by kernel_rfl, by kernel_rfl, by kernel_rfl, by kernel_rfl⟩
theorem fn511 (P : Params) : FnAt P 511 (fdef 30) (S "law") .none (.str (S "law_rh0181_01") 724) 510 [S "script"] :=
  ⟨by kernel_rfl, by kernel_rfl, fun us e s k => by obtain ⟨a0, rfl⟩ := len1 e; exact .of_eq rfl, by decide +kernel, by kernel_rfl, by kernel_rfl, by kernel_rfl, by kernel_rfl, by kernel_rfl⟩
theorem gPsError (P : Params) : nsIn (K P) mainGlobals "PsError" = some (some (.ref 52)) := by kernel_rfl
theorem gFILE_ACCESSES (P : Params) : nsIn (K P) mainGlobals "FILE_ACCESSES" = some (some (.ref 55)) := by kernel_rfl
theorem gFILE_MOST_NAME (P : Params) : nsIn (K P) mainGlobals "FILE_MOST_NAME" = some (some (.int (255) 250)) := by kernel_rfl
theorem gFILE_DEVICE (P : Params) : nsIn (K P) mainGlobals "FILE_DEVICE" = some (some (.bytes #[37, 111, 115, 37] 252)) := by kernel_rfl
theorem gOctetReader (P : Params) : nsIn (K P) mainGlobals "OctetReader" = some (some (.ref 226)) := by kernel_rfl
theorem gDiskFile (P : Params) : nsIn (K P) mainGlobals "DiskFile" = some (some (.ref 280)) := by kernel_rfl
theorem gStandardOut (P : Params) : nsIn (K P) mainGlobals "StandardOut" = some (some (.ref 320)) := by kernel_rfl
theorem gfile_device_name (P : Params) : nsIn (K P) mainGlobals "file_device_name" = some (some (.ref 329)) := by kernel_rfl
theorem gFileTable (P : Params) : nsIn (K P) mainGlobals "FileTable" = some (some (.ref 413)) := by kernel_rfl
theorem g_law_names (P : Params) : nsIn (K P) mainGlobals "_law_names" = some (some (.ref 424)) := by kernel_rfl
theorem g_law_ways (P : Params) : nsIn (K P) mainGlobals "_law_ways" = some (some (.ref 425)) := by kernel_rfl
theorem g_law_texts (P : Params) : nsIn (K P) mainGlobals "_law_texts" = some (some (.ref 426)) := by kernel_rfl
theorem g_law_draw (P : Params) : nsIn (K P) mainGlobals "_law_draw" = some (some (.ref 433)) := by kernel_rfl
theorem g_law_plain (P : Params) : nsIn (K P) mainGlobals "_law_plain" = some (some (.ref 440)) := by kernel_rfl
theorem g_law_has (P : Params) : nsIn (K P) mainGlobals "_law_has" = some (some (.ref 447)) := by kernel_rfl
theorem g_law_shut (P : Params) : nsIn (K P) mainGlobals "_law_shut" = some (some (.ref 454)) := by kernel_rfl
theorem g_law_opened (P : Params) : nsIn (K P) mainGlobals "_law_opened" = some (some (.ref 459)) := by kernel_rfl
theorem g_law_written (P : Params) : nsIn (K P) mainGlobals "_law_written" = some (some (.ref 466)) := by kernel_rfl
theorem g_law_read (P : Params) : nsIn (K P) mainGlobals "_law_read" = some (some (.ref 473)) := by kernel_rfl
theorem g_law_placed (P : Params) : nsIn (K P) mainGlobals "_law_placed" = some (some (.ref 480)) := by kernel_rfl
theorem g_law_moved (P : Params) : nsIn (K P) mainGlobals "_law_moved" = some (some (.ref 487)) := by kernel_rfl
theorem g_law_gone (P : Params) : nsIn (K P) mainGlobals "_law_gone" = some (some (.ref 494)) := by kernel_rfl
theorem g_law_stands (P : Params) : nsIn (K P) mainGlobals "_law_stands" = some (some (.ref 501)) := by kernel_rfl
theorem g_law_is_right (P : Params) : nsIn (K P) mainGlobals "_law_is_right" = some (some (.ref 506)) := by kernel_rfl
theorem b_len (P : Params) : nsIn (K P) mainGlobals "len" = some none := by kernel_rfl
theorem c_len_ : bootBuiltins "len" = some (.builtin "len") := by kernel_rfl
theorem b_int (P : Params) : nsIn (K P) mainGlobals "int" = some none := by kernel_rfl
theorem c_int_ : bootBuiltins "int" = some (.type "int") := by kernel_rfl
theorem b_max (P : Params) : nsIn (K P) mainGlobals "max" = some none := by kernel_rfl
theorem c_max_ : bootBuiltins "max" = some (.builtin "max") := by kernel_rfl
theorem b_bytes (P : Params) : nsIn (K P) mainGlobals "bytes" = some none := by kernel_rfl
theorem c_bytes_ : bootBuiltins "bytes" = some (.type "bytes") := by kernel_rfl
theorem b_range (P : Params) : nsIn (K P) mainGlobals "range" = some none := by kernel_rfl
theorem c_range_ : bootBuiltins "range" = some (.type "range") := by kernel_rfl
theorem b_dict (P : Params) : nsIn (K P) mainGlobals "dict" = some none := by kernel_rfl
theorem c_dict_ : bootBuiltins "dict" = some (.type "dict") := by kernel_rfl

end
end Mine
end
section
set_option maxHeartbeats 400000
namespace Mine
noncomputable section
section
variable {c : Cx} {loc : Loc} {σ : MHeap} {α β : Type} {X : MV → MHeap → Prop} {Q : MV → MHeap → Prop} {h h' : Heap} {a d : Addr} {Kt : MF → Loc → MHeap → Prop} {B : Bool → MHeap → Prop}
noncomputable def seqK (c : Cx) (r : List Stmt) (Kt : MF → Loc → MHeap → Prop) (X : MV → MHeap → Prop) : MF → Loc → MHeap → Prop
  | .next, l, σ => WS c l σ r Kt X
  | f, l, σ => Kt f l σ
theorem S_seq {st : Stmt} {r : List Stmt} (h : W1 c loc σ st (seqK c r Kt X) X) : WS c loc σ (st :: r) Kt X := S_cons (WL.mono h (fun f l σ' q => by cases f' : erF f <;> rw [f'] at q <;> exact q) fun _ _ x => x)
theorem S_last {st : Stmt} (h : W1 c loc σ st Kt X) : WS c loc σ [st] Kt X := S_cons (WL.mono h (fun f l σ' q => by
  cases f with
  | next => exact S_nil q
  | brk => exact q
  | cont => exact q
  | ret v => exact q) fun _ _ x => x)
theorem K_next {r : List Stmt} (h : WS c loc σ r Kt X) : seqK c r Kt X .next loc σ := h
theorem K_ret {r : List Stmt} {v : MV} (h : Kt (.ret v) loc σ) : seqK c r Kt X (.ret v) loc σ := h
theorem K_brk {r : List Stmt} (h : Kt .brk loc σ) : seqK c r Kt X .brk loc σ := h
theorem ite_of {z : Bool} {A B : Prop} (h1 : z = true → A) (h2 : z = false → B) : if z = true then A else B := by
  cases z
  · exact (if_neg Bool.false_ne_true).mpr (h2 rfl)
  · exact (if_pos rfl).mpr (h1 rfl)
theorem ite_t {A B : Prop} (h : A) : if true = true then A else B := (if_pos rfl).mpr h
theorem ite_f {A B : Prop} (h : B) : if false = true then A else B := (if_neg Bool.false_ne_true).mpr h
theorem int_ex {i : Int} {p : Int → Prop} (h : p i) : ∃ j, MV.int i = MV.int j ∧ p j := ⟨i, rfl, h⟩
theorem B_ifexp {t b o : Expr} {pos : Pos} (h : WB c loc σ t (fun z σ₁ => if z = true then WB c loc σ₁ b B X else WB c loc σ₁ o B X) X) : WB c loc σ (.IfExp t b o pos) B X := fun s hs => by
  rw [arm_isTrue_IfExp]
  exact wpAny_bind (h.use .rfl hs fun z σ₁ s₁ st₁ S₁ h₁ => by cases z <;> simp at h₁ ⊢ <;> exact h₁.run st₁ S₁)
theorem ite_nt {A B : Prop} (h : A) : if (!false) = true then A else B := (if_pos rfl).mpr h
theorem ite_nf {A B : Prop} (h : B) : if (!true) = true then A else B := (if_neg Bool.false_ne_true).mpr h
noncomputable def AttrR (c : Cx) (loc : Loc) (σ : MHeap) (o : MV) (a : Str) (b : Bool) (Q : MV → MHeap → Prop) (X : MV → MHeap → Prop) : Prop := Op1 c loc σ (fun u => getAttr u a b) o (fun v σ => Q (er v) σ) X
theorem E_attrR {o : Expr} {a : Str} {pos : Pos} (h : WE c loc σ (eval o c.env) (fun v σ₁ => AttrR c loc σ₁ v a true Q X) X) (hb : attributeBase o a c.env (eval o c.env) = eval o c.env) : WE c loc σ (eval (.Attribute o a pos) c.env) Q X := E_attr h hb
theorem a_getR (C : c.Ok) {x d Cl : Addr} {fs : List (Str × MV)} {a : Str} {v : MV} {b : Bool} (hx : σ x = some (.inst Cl d)) (hd : σ d = some (.sd fs)) (hm : Look fs a v) (hf : v.flat = true) (hc : attrOk (K c.w.params) Cl a = true) (h : Q v σ) : AttrR c loc σ (.ref x) a b Q X := a_get C hx hd hm hf hc h
theorem a_toldR (C : c.Ok) {x d : Addr} {v : MV} {b : Bool} (hx : σ x = some (.exc d)) (hd : σ d = some (.sd [(S "told", v)])) (hf : v.flat = true) (h : Q v σ) : AttrR c loc σ (.ref x) "told" b Q X := a_told C hx hd hf h
theorem S_augR {o value : Expr} {x : Str} {tp pos : Pos} {op : Operator} (h : WE c loc σ (eval o c.env) (fun ov σ₁ => AttrR c loc σ₁ ov x true (fun old σ₂ => WE c loc σ₂ (eval value c.env) (fun v σ₃ => Op2 c loc σ₃ (inplaceOp op) old v (fun nv σ₄ => ∀ ou vu, er ou = ov → er vu = nv → WT c loc σ₄ (setAttr ou x vu) (fun _ σ₅ => Kt .next loc σ₅) X) X) X) X) X) :
    W1 c loc σ (.AugAssign (.Attribute o x tp) op value pos) Kt X := S_augattr h
noncomputable def UnR (c : Cx) (loc : Loc) (σ : MHeap) (op : UnaryOp) (o : MV) (Q : MV → MHeap → Prop) (X : MV → MHeap → Prop) : Prop := Op1 c loc σ (unaryOp op) o (fun v σ => Q (er v) σ) X
theorem E_unR {op : UnaryOp} {x : Expr} {pos : Pos} (h : WE c loc σ (eval x c.env) (fun v σ₁ => UnR c loc σ₁ op v Q X) X) : WE c loc σ (eval (.UnaryOp op x pos) c.env) Q X := E_unary h
theorem leB {a b : Nat} (h : Nat.ble a b = true) : a ≤ b := Nat.le_of_ble_eq_true h
theorem i_sdl {es : List (Str × MV)} {x : Str} {v : MV} (q : σ d = some (.sd es)) (k : Look es x v) (h : Q v σ) : ItemR c loc σ (.ref d) (.str x) Q X := fun u y hu hy s hs => by
  obtain ⟨kvs, hd, he⟩ := hs.sdict q
  have hn : (kvs.map (·.1)).Nodup := let ⟨_, _, _, _, _, _, _, _, hn⟩ := hd; hn
  exact i_sd q (getK_mem (by rw [← he, keys_er]; exact hn) k.mem) h u y hu hy s hs
theorem a_put (C : c.Ok) {x d Cl : Addr} {fs fs' : List (Str × MV)} {a : Str} {v : MV} (hx : σ x = some (.inst Cl d)) (hd : σ d = some (.sd fs)) (hz : fs.length ≤ 900) (r : PutR a v fs fs') (hc : setOk (K c.w.params) Cl a = true) {Q : Unit → MHeap → Prop} (h : Q () (upd σ d (.sd fs'))) :
    ∀ ou vu, er ou = .ref x → er vu = v → WT c loc σ (setAttr ou a vu) Q X := fun ou vu ho hv => a_set C hx hd hz r hc h ho hv
theorem keep_and {f : MV} {Kf : Frag} {p : Prop} (h1 : keepOk Kf f = true) (h2 : p) : keepOk Kf f = true ∧ p := ⟨h1, h2⟩
theorem at_ne {a b : Addr} {o o' : MObj} (h1 : σ b = some o') (h2 : b ≠ a) : upd σ a o b = some o' := (upd_ne h2).trans h1
theorem ne_fresh {a b : Addr} {o : MObj} (h1 : σ a = some o) (h2 : σ b = none) : a ≠ b := fun e => by rw [e, h2] at h1; cases h1
theorem drop_fresh {t : Sem α} {Q : α → MHeap → Prop} {r : Addr} {o : MObj} (hr : σ r = none) (h : WT c loc σ t Q X) : WT c loc (upd σ r o) t Q X := h.sub (sub_upd hr o)
theorem dropL {t : Sem α} {Q : α → Loc → MHeap → Prop} {r : Addr} {o : MObj} (hr : σ r = none) (h : WL c loc σ t Q X) : WL c loc (upd σ r o) t Q X := h.sub (sub_upd hr o)
end
end
end Mine
end
set_option maxHeartbeats 1000000
namespace Mine
noncomputable section
local macro_rules | `(tactic| walk_at "look") => `(tactic| (with_reducible first | exact Look.head | ((with_reducible apply Look.tail); walk_at "look")))
local macro_rules | `(tactic| walk_at "wipe") => `(tactic| (with_reducible first | exact Wipe.nil | ((with_reducible apply Wipe.here); walk_at "wipe") | ((with_reducible apply Wipe.keep); (kernel_rfl; walk_at "wipe"))))
local macro_rules | `(tactic| walk_at "put") => `(tactic| (with_reducible first | exact PutR.nil | with_reducible exact PutR.head | ((with_reducible apply PutR.tail); (kernel_rfl; walk_at "put"))))
local macro_rules | `(tactic| walk_at "ne") => `(tactic| (first | assumption | exact Ne.symm (by assumption) | exact ne_fresh (by assumption) (by assumption) | exact Ne.symm (ne_fresh (by assumption) (by assumption))))
local macro_rules | `(tactic| walk_at "at") => `(tactic| (first | assumption | with_reducible exact upd_self _ _ _ | ((with_reducible apply at_ne); (walk_at "at"; walk_at "ne"))))
local macro_rules | `(tactic| walk_at "glob") => `(tactic| (with_reducible first | exact gPsError _ | exact gFILE_ACCESSES _ | exact gFILE_MOST_NAME _ | exact gFILE_DEVICE _ | exact gOctetReader _ | exact gDiskFile _ | exact gStandardOut _ | exact gfile_device_name _ | exact gFileTable _ | exact g_law_names _ | exact g_law_ways _ | exact g_law_texts _ | exact g_law_draw _ | exact g_law_plain _ | exact g_law_has _ | exact g_law_shut _ | exact g_law_opened _ | exact g_law_written _ | exact g_law_read _ | exact g_law_placed _ | exact g_law_moved _ | exact g_law_gone _ | exact g_law_stands _ | exact g_law_is_right _))
local macro_rules | `(tactic| walk_at "nog") => `(tactic| (with_reducible first | exact b_len _ | exact b_int _ | exact b_max _ | exact b_bytes _ | exact b_range _ | exact b_dict _))
local macro_rules | `(tactic| walk_at "blt") => `(tactic| (with_reducible first | exact c_len_ | exact c_int_ | exact c_max_ | exact c_bytes_ | exact c_range_ | exact c_dict_))
local macro_rules | `(tactic| walk_at "v") => `(tactic| with_reducible first
  | refine ite_t ?_ | refine ite_f ?_ | refine ite_nt ?_ | refine ite_nf ?_
  | (show W1 _ _ _ _ _ _; first | refine S_if ?_ | refine S_name (by assumption) ?_ (by kernel_rfl) (by kernel_rfl) | refine S_ret ?_ | refine S_expr ?_ (by kernel_rfl) (by kernel_rfl) | refine S_setattr ?_ (by kernel_rfl) | refine S_setsub ?_ (by kernel_rfl) | refine S_augR ?_ | refine S_ret_none ?_ | refine S_pass ?_ | refine S_break ?_)
  | (show WE _ _ _ (eval (Expr.Name _ _) _) _ _; first | refine E_local (by assumption) (by walk_at "look") ?_ (by kernel_rfl) (by kernel_rfl) | refine E_global (by assumption) ?_ (by walk_at "glob") (by kernel_rfl) (by kernel_rfl) | refine E_builtin (by assumption) ?_ (by walk_at "nog") (by walk_at "blt") (by decide +kernel) (by kernel_rfl) (by kernel_rfl))
  | (show WE _ _ _ (eval (Expr.Constant _ _ _) _) _ _; first | refine E_int ?_ | refine E_bytes ?_ | refine E_str ?_ | refine E_none ?_ | refine E_bool ?_)
  | (show WE _ _ _ (eval (Expr.Attribute _ _ _) _) _ _; first | refine E_attrR ?_ (by kernel_rfl))
  | (show WE _ _ _ (eval (Expr.Subscript _ _ _) _) _ _; first | refine E_slice ?_ | refine E_sub ?_)
  | (show WE _ _ _ (eval (Expr.Call _ _ _ _) _) _ _; first | refine E_call0 (by assumption) ?_ | refine E_call (by assumption) ?_ (by kernel_rfl) (by kernel_rfl) | refine E_meth0 (by assumption) ?_ (by kernel_rfl) (by kernel_rfl) | refine E_meth (by assumption) ?_ (by kernel_rfl) (by kernel_rfl) (by kernel_rfl) (by kernel_rfl) (by kernel_rfl) | refine E_callsub (by assumption) ?_ (by kernel_rfl) (by kernel_rfl))
  | (show WE _ _ _ (eval _ _) _ _; first | refine E_compare ?_ (by kernel_rfl) | refine E_binop ?_ | refine E_ifexp ?_ | refine E_unR ?_)
  | (show WB _ _ _ _ _ _; first | refine B_compare ?_ (by kernel_rfl) | refine B_not ?_ | refine B_boolop ?_ | refine B_ifexp ?_ | refine B_value ?_ (by kernel_rfl))
  | (show WAll _ _ _ _ _ _ _; first | refine And_nil ?_ | refine And_cons ?_ | refine Or_nil ?_ | refine Or_cons ?_)
  | (show WArgs _ _ _ _ _ _ _; first | refine Args_nil ?_ | refine Args_cons ?_ (by kernel_rfl))
  | (show WPart _ _ _ _ _ _; first | refine P_none ?_ | refine P_some ?_)
  | (show AttrR _ _ _ _ _ _ _ _; first | refine a_getR (by assumption) (by walk_at "at") (by walk_at "at") (by walk_at "look") rfl (by kernel_rfl) ?_)
  | (show ItemR _ _ _ _ _ _ _; first | refine i_sdl (by walk_at "at") (by walk_at "look") ?_)
  | (show Op1 _ _ _ truthy _ _ _; first | refine t_bool ?_)
  | (show Op2 _ _ _ _ _ _ _ _; first | refine o_add ?_ | refine o_sub ?_ | refine o_iadd ?_ | refine o_isub ?_ | refine o_eqb ?_ | refine o_neb ?_ | refine o_eqi ?_ | refine o_nei ?_ | refine o_lt ?_ | refine o_gt ?_ | refine o_ge ?_ | refine o_nebool ?_ | refine o_is ?_ | refine o_isnot ?_)
  | (show Op3 _ _ _ _ _ _ _ _; first | refine p_sd (by walk_at "at") (leB (by kernel_rfl)) (by walk_at "put") ?_)
  | refine ⟨_, by walk_at "wipe", ?_⟩ | refine int_ex ?_ | (show keepOk _ _ = true ∧ _; refine keep_and (by kernel_rfl) ?_)
  | (show ∀ _ _, _ → _ → WT _ _ _ (setAttr _ _ _) _ _; refine a_put (by assumption) (by walk_at "at") (by walk_at "at") (leB (by kernel_rfl)) (by walk_at "put") (by kernel_rfl) ?_))
local macro_rules | `(tactic| walk_at "w") => `(tactic| with_reducible first
  | (show seqK _ _ _ _ _ _ _; first | refine K_next ?_ | refine K_ret ?_ | refine K_brk ?_)
  | (show WS _ _ _ _ _ _; first | refine S_nil ?_ | refine S_last ?_ | refine S_seq ?_)
  | walk_at "v")
section
variable {c : Cx} {loc : Loc} {σ : MHeap} {α β : Type} {X : MV → MHeap → Prop} {Q : MV → MHeap → Prop} {h h' : Heap} {a d : Addr} {Kt : MF → Loc → MHeap → Prop} {B : Bool → MHeap → Prop}
noncomputable abbrev deckO (cA : Addr) (k : Nat) : MObj := .sd [(S "cells", .ref cA), (S "at", .int k)]
theorem draw_ok (C : c.Ok) {n : Nat} (hn : c.n = n + 1) {deck cA : Addr} {cs : List Int} {k : Nat} {b : Int} (hd : σ deck = some (deckO cA k)) (hc : σ cA = some (.list (cs.map .int))) (hne : cA ≠ deck) (hk : k ≤ 1000) (hz : cs.length ≤ 1000) (hb : 0 < b)
    (h : ∀ r, 0 ≤ r → r < b → Q (.int r) (upd σ deck (deckO cA (k + 1)))) : CallR c loc σ (.ref 433) [.ref deck, .int b] Q X := by
  refine c_fn C hn (fn433 _) rfl (loc₀ := [(S "deck", .ref deck), (S "below", .int b)]) rfl ?_
  intro H n' A frames fr fix L hn' hA C' F'
  refine S_seq ?_
  repeat' walk_at "w"
  refine c_len_list (xs := cs.map .int) (by walk_at "at") (by simpa using (by omega : cs.length ≤ 1000000)) ?_
  repeat' walk_at "w"
  have fin : ∀ r : Int, 0 ≤ r → r < b → Q (.int r) (upd σ deck (.sd [(S "cells", .ref cA), (S "at", .int (k + 1))])) := h
  refine ite_of (fun hz' => ?_) (fun hz' => ?_)
  · repeat' walk_at "w"
    have hk' : k < cs.length := by simpa using hz'
    refine i_list (xs := cs.map .int) (v := .int cs[k]) (by walk_at "at") (Int.natCast_nonneg _) (by omega) (by simp [hk']) ?_
    repeat' walk_at "w"
    exact o_mod (by omega) (fin _ (Int.fmod_nonneg_of_pos _ hb) (Int.fmod_lt_of_pos _ hb))
  · repeat' walk_at "w"
    refine o_mul ?_ ?_
    · repeat' walk_at "w"
      exact o_mod (by omega) (fin _ (Int.fmod_nonneg_of_pos _ hb) (Int.fmod_lt_of_pos _ hb))
    · exact IntMulOk.of_left (by decide)
end
section
variable {c : Cx} {loc : Loc} {σ : MHeap} {α β : Type} {X : MV → MHeap → Prop} {Q : MV → MHeap → Prop} {h h' : Heap} {a d : Addr} {Kt : MF → Loc → MHeap → Prop} {B : Bool → MHeap → Prop}
theorem upd_upd {a : Addr} {o o' : MObj} : upd (upd σ a o) a o' = upd σ a o' := by
  funext b; unfold upd; by_cases h : b = a
  · rw [if_pos h, if_pos h]
  · rw [if_neg h, if_neg h, if_neg h]
theorem call_fn (C : c.Ok) (hH : c.A.handled = none) (hn : 1 ≤ c.n) {f : Addr} {vs : List MV} {st : Stmt} {qual : Str} {dV pm : Value} {code : Addr} {names : List Str} (F : FnAt c.w.params f st qual dV pm code names) (hz : vs.length = names.length) {loc₀ : Loc} (hl : loc₀ = names.zip vs)
    (h : ∀ H n' A frames fr fix L, n' + 1 = c.n → (⟨c.w, H, n', A, frames, fr, fix, envOf qual (fscope st) L f (.ref code)⟩ : Cx).A.handled = none → (⟨c.w, H, n', A, frames, fr, fix, envOf qual (fscope st) L f (.ref code)⟩ : Cx).Ok → (⟨c.w, H, n', A, frames, fr, fix, envOf qual (fscope st) L f (.ref code)⟩ : Cx).Fun →
      WS ⟨c.w, H, n', A, frames, fr, fix, envOf qual (fscope st) L f (.ref code)⟩ loc₀ σ (fbody st) (fun fl _ σ' => Q (retOf fl) σ') X) : CallR c loc σ (.ref f) vs Q X :=
  c_fn C (n := c.n - 1) (by omega) F hz hl fun H n' A frames fr fix L h1 h2 C' F' => h H n' A frames fr fix L (by omega) (h2.trans hH) C' F'
theorem call_new (C : c.Ok) (hH : c.A.handled = none) (hn : 1 ≤ c.n) {Cl f : Addr} {vs : List MV} {st : Stmt} {qual : Str} {dV pm : Value} {code : Addr} {names : List Str} (F : FnAt c.w.params f st qual dV pm code names) (hc : newOk (K c.w.params) Cl f = true) (hz : vs.length + 1 = names.length)
    (h : ∀ x d, σ x = none → σ d = none → d ≠ x → ∀ H n' A frames fr fix L, n' + 1 = c.n → (⟨c.w, H, n', A, frames, fr, fix, envOf qual (fscope st) L f (.ref code)⟩ : Cx).A.handled = none → (⟨c.w, H, n', A, frames, fr, fix, envOf qual (fscope st) L f (.ref code)⟩ : Cx).Ok → (⟨c.w, H, n', A, frames, fr, fix, envOf qual (fscope st) L f (.ref code)⟩ : Cx).Fun →
      WS ⟨c.w, H, n', A, frames, fr, fix, envOf qual (fscope st) L f (.ref code)⟩ (names.zip (.ref x :: vs)) (upd (upd σ d (.sd [])) x (.inst Cl d)) (fbody st) (fun fl _ σ' => retOf fl = .none ∧ Q (.ref x) σ') X) : CallR c loc σ (.ref Cl) vs Q X :=
  c_new C (n := c.n - 1) (by omega) F hc hz fun x d h1 h2 h3 H n' A frames fr fix L h4 h5 C' F' => h x d h1 h2 h3 H n' A frames fr fix L (by omega) (h5.trans hH) C' F'
noncomputable def Thr (σ : MHeap) (X : MV → MHeap → Prop) (b : List UInt8) : Prop := ∀ e, σ e = none → X (.bytes b) (upd σ e (.sd [(S "told", .bytes b)]))
theorem S_thr (C : c.Ok) (hH : c.A.handled = none) (hn : 1 ≤ c.n) {np cpos pos : Pos} {b : List UInt8} {k : Nat} {p : Pos} (h : Thr σ X b) (hl : c.env.kindOf "PsError" = some .globalImplicit) : W1 c loc σ (.Raise (some (.Call (.Name "PsError" np) [.Constant (.bytes b) k p] [] cpos)) none pos) Kt X :=
  S_raise C (n := c.n - 1) (by omega) hH (E_bytes h) hl rfl rfl
noncomputable abbrev b_ioerror : List UInt8 := [105, 111, 101, 114, 114, 111, 114]
noncomputable abbrev b_invalidaccess : List UInt8 := [105, 110, 118, 97, 108, 105, 100, 97, 99, 99, 101, 115, 115]
noncomputable abbrev b_rangecheck : List UInt8 := [114, 97, 110, 103, 101, 99, 104, 101, 99, 107]
noncomputable abbrev b_limitcheck : List UInt8 := [108, 105, 109, 105, 116, 99, 104, 101, 99, 107]
noncomputable abbrev b_undefinedfilename : List UInt8 := [117, 110, 100, 101, 102, 105, 110, 101, 100, 102, 105, 108, 101, 110, 97, 109, 101]
noncomputable abbrev b_invalidfileaccess : List UInt8 := [105, 110, 118, 97, 108, 105, 100, 102, 105, 108, 101, 97, 99, 99, 101, 115, 115]
noncomputable abbrev fO (num : Int) (name : List UInt8) (cr cw op : Bool) (place : Int) (last : MV) (k : Str) (x : MV) (at_ : Nat) : MObj :=
  .sd [(S "number", .int num), (S "name", .bytes name), (S "can_read", .bool cr), (S "can_write", .bool cw), (S "is_open", .bool op), (S "place", .int place), (S "depth", .int 0), (S "last", last), (S "is_back", .bool false), (k, x), (S "at", .int at_)]
noncomputable def plain (x : List UInt8) : List UInt8 := if (cut none (some 4) x == [37, 111, 115, 37]) = true then cut (some 4) none x else x
theorem plain_ok (C : c.Ok) (hH : c.A.handled = none) (hn : 1 ≤ c.n) {x : List UInt8} (hx : x.length ≤ 1000) (h : Q (.bytes (plain x)) σ) : CallR c loc σ (.ref 440) [.bytes x] Q X := by
  refine call_fn C hH hn (fn440 _) rfl (loc₀ := [(S "told", .bytes x)]) rfl ?_
  intro H n' A frames fr fix L hn' hH' C' F'
  refine S_last ?_
  repeat' walk_at "w"
  refine s_bytes (by omega) ?_
  repeat' walk_at "w"
  unfold plain at h
  refine ite_of (fun hz => ?_) (fun hz => ?_)
  · repeat' walk_at "w"
    refine s_bytes (by omega) ?_
    rw [if_pos hz] at h
    exact h
  · repeat' walk_at "w"
    rw [if_neg (by rw [hz]; decide)] at h
    exact h
theorem device_ok (C : c.Ok) (hH : c.A.handled = none) (hn : 1 ≤ c.n) {x : List UInt8} (hx : x.length ≤ 1000) (h : Q (.bytes (plain x)) σ) : CallR c loc σ (.ref 329) [.bytes x] Q X := by
  refine call_fn C hH hn (fn329 _) rfl (loc₀ := [(S "name", .bytes x)]) rfl ?_
  intro H n' A frames fr fix L hn' hH' C' F'
  refine S_last ?_
  repeat' walk_at "w"
  refine s_bytes (by omega) ?_
  repeat' walk_at "w"
  refine o_eqb ?_
  repeat' walk_at "w"
  unfold plain at h
  refine ite_of (fun hz => ?_) (fun hz => ?_)
  · repeat' walk_at "w"
    refine s_bytes (by omega) ?_
    rw [if_pos hz] at h
    exact h
  · repeat' walk_at "w"
    rw [if_neg (by rw [hz]; decide)] at h
    exact h
theorem close_ok (C : c.Ok) (hH : c.A.handled = none) (hn : 1 ≤ c.n) {x d Cl : Addr} {num : Int} {name : List UInt8} {cr cw op : Bool} {place : Int} {last : MV} {k : Str} {v : MV} {at_ : Nat} (hc : Cl = 226 ∨ Cl = 280) (hx : σ x = some (.inst Cl d)) (hd : σ d = some (fO num name cr cw op place last k v at_))
    (h : Q .none (upd σ d (fO num name cr cw false place .none k v at_))) : CallR c loc σ (.ref 153) [.ref x] Q X := by
  refine call_fn C hH hn (fn153 _) rfl (loc₀ := [(S "self", .ref x)]) rfl ?_
  intro H n' A frames fr fix L hn' hH' C' F'
  have hne : x ≠ d := fun e => by rw [e, hd] at hx; cases hx
  rcases hc with rfl | rfl <;>
  · refine S_seq ?_
    repeat' walk_at "w"
    refine S_tuple hH' ?_ rfl rfl rfl
    repeat' walk_at "w"
    refine ⟨leB (by kernel_rfl), rfl, A_cons fun u hu => A_attr hu ?_⟩
    repeat' walk_at "w"
    refine A_cons fun u hu => A_attr hu ?_
    repeat' walk_at "w"
    refine A_nil ?_
    rw [upd_upd, upd_upd]
    exact h
end
section
variable {c : Cx} {loc : Loc} {σ : MHeap} {α β : Type} {X : MV → MHeap → Prop} {Q : MV → MHeap → Prop} {h h' : Heap} {a d : Addr} {Kt : MF → Loc → MHeap → Prop} {B : Bool → MHeap → Prop}
theorem ne_of {a b : Addr} {o o' : MObj} (h1 : σ a = some o) (h2 : σ b = some o') (h : o ≠ o') : a ≠ b := fun e => by rw [e, h2] at h1; cases h1; exact h rfl
theorem check_open_ok (C : c.Ok) (hH : c.A.handled = none) (hn : 2 ≤ c.n) {x d Cl : Addr} {num : Int} {name : List UInt8} {cr cw op : Bool} {place : Int} {last : MV} {k : Str} {v : MV} {at_ : Nat} {isRead : Bool} (hc : Cl = 226 ∨ Cl = 280) (hx : σ x = some (.inst Cl d)) (hd : σ d = some (fO num name cr cw op place last k v at_))
    (h1 : (if isRead then cr else cw) = true → op = true → Q .none σ) (h2 : (if isRead then cr else cw) = false → Thr σ X b_invalidaccess) (h3 : (if isRead then cr else cw) = true → op = false → Thr σ X b_ioerror) : CallR c loc σ (.ref 111) [.ref x, .bool isRead] Q X := by
  refine call_fn C hH (by omega) (fn111 _) rfl (loc₀ := [(S "self", .ref x), (S "is_to_read", .bool isRead)]) rfl ?_
  intro H n' A frames fr fix L hn' hH' C' F'
  have hn1 : 1 ≤ n' := by omega
  rcases hc with rfl | rfl <;> cases isRead
  case inl.true | inr.true =>
    refine S_seq ?_
    repeat' walk_at "w"
    cases cr
    · repeat' walk_at "w"
      exact S_thr C' hH' hn1 (h2 rfl) (by kernel_rfl)
    · repeat' walk_at "w"
      cases op
      · repeat' walk_at "w"
        exact S_thr C' hH' hn1 (h3 rfl rfl) (by kernel_rfl)
      · repeat' walk_at "w"
        exact h1 rfl rfl
  case inl.false | inr.false =>
    refine S_seq ?_
    repeat' walk_at "w"
    cases cw
    · repeat' walk_at "w"
      exact S_thr C' hH' hn1 (h2 rfl) (by kernel_rfl)
    · repeat' walk_at "w"
      cases op
      · repeat' walk_at "w"
        exact S_thr C' hH' hn1 (h3 rfl rfl) (by kernel_rfl)
      · repeat' walk_at "w"
        exact h1 rfl rfl
theorem begin_ok (C : c.Ok) (hH : c.A.handled = none) (hn : 1 ≤ c.n) {x d Cl : Addr} {num : Int} {name : List UInt8} {cr cw : Bool} (hc : Cl = 226 ∨ Cl = 280 ∨ Cl = 320) (hx : σ x = some (.inst Cl d)) (hd : σ d = some (.sd []))
    (h : Q .none (upd σ d (.sd [(S "number", .int num), (S "name", .bytes name), (S "can_read", .bool cr), (S "can_write", .bool cw), (S "is_open", .bool true), (S "place", .int 0), (S "depth", .int 0), (S "last", .none), (S "is_back", .bool false)]))) : CallR c loc σ (.ref 76) [.ref x, .int num, .bytes name, .bool cr, .bool cw] Q X := by
  refine call_fn C hH (by omega) (fn76 _) rfl (loc₀ := [(S "self", .ref x), (S "number", .int num), (S "name", .bytes name), (S "can_read", .bool cr), (S "can_write", .bool cw)]) rfl ?_
  intro H n' A frames fr fix L hn' hH' C' F'
  have hne : x ≠ d := ne_of hx hd nofun
  rcases hc with rfl | rfl | rfl <;>
  · refine S_seq ?_
    repeat' walk_at "w"
    rw [upd_upd, upd_upd, upd_upd, upd_upd, upd_upd, upd_upd, upd_upd, upd_upd]
    exact h
end
section
variable {c : Cx} {loc : Loc} {σ : MHeap} {α β : Type} {X : MV → MHeap → Prop} {Q : MV → MHeap → Prop} {h h' : Heap} {a d : Addr} {Kt : MF → Loc → MHeap → Prop} {B : Bool → MHeap → Prop}
theorem m_append {xs : List MV} (q : σ a = some (.list xs)) : MethR c loc σ (.ref a) "append" (bi "list.append") [.ref a] :=
  m_builtin (T := "list") (fun h S => by obtain ⟨vs, n, g, _⟩ := S.lst q; exact ⟨_, g, rfl, rfl⟩) PySem.F.plainAttrs_list PySem.F.slot_list_append PySem.F.type_list_append
theorem bd_plain {es : List (List UInt8 × MV)} (q : σ a = some (.bd es)) (h : Heap) (S : Sim c loc σ h) : ∃ ob, h.get? a = some ob ∧ ob.cls = .type "dict" ∧ ob.dict = none := by
  obtain ⟨_, _, _, _, ob, g, kvs, ⟨es, ep, ⟨e1, e2, e3⟩, _⟩, _⟩ := S.hr _ _ q
  exact ⟨ob, g, e1, e2⟩
theorem m_dget {es : List (List UInt8 × MV)} (q : σ a = some (.bd es)) : MethR c loc σ (.ref a) "get" (bi "dict.get") [.ref a] :=
  m_builtin (T := "dict") (bd_plain q) PySem.F.plainAttrs_dict PySem.F.slot_dict_get PySem.F.type_dict_get
theorem m_dpop {es : List (List UInt8 × MV)} (q : σ a = some (.bd es)) : MethR c loc σ (.ref a) "pop" (bi "dict.pop") [.ref a] :=
  m_builtin (T := "dict") (bd_plain q) PySem.F.plainAttrs_dict PySem.F.slot_dict_pop PySem.F.type_dict_pop
theorem upd_comm {a b : Addr} {o o' : MObj} (h : a ≠ b) : upd (upd σ a o) b o' = upd (upd σ b o') a o := by
  funext y; unfold upd
  by_cases h1 : y = b
  · by_cases h2 : y = a
    · exact absurd (h2.symm.trans h1) h
    · rw [if_pos h1, if_neg h2, if_pos h1]
  · by_cases h2 : y = a
    · rw [if_neg h1, if_pos h2]; rw [if_pos h2]
    · rw [if_neg h1, if_neg h2, if_neg h2, if_neg h1]
noncomputable abbrev rO (num : Int) (name : List UInt8) (op : Bool) (place : Int) (last : MV) (oct : List UInt8) (at_ : Nat) : MObj := fO num name true false op place last (S "octets") (.bytes oct) at_
noncomputable abbrev wO (num : Int) (name : List UInt8) (cr op : Bool) (place : Int) (last : MV) (disk : Addr) (at_ : Nat) : MObj := fO num name cr true op place last (S "disk") (.ref disk) at_
theorem initR_ok (C : c.Ok) (hH : c.A.handled = none) (hn : 2 ≤ c.n) {num : Int} {name oct : List UInt8}
    (h : ∀ x d, σ x = none → σ d = none → d ≠ x → Q (.ref x) (upd (upd σ x (.inst 226 d)) d (rO num name true 0 .none oct 0))) : CallR c loc σ (.ref 226) [.int num, .bytes name, .bytes oct] Q X := by
  refine call_new C hH (by omega) (fn195 _) (by kernel_rfl) rfl ?_
  intro x d hx hd hne H n' A frames fr fix L hn' hH' C' F'
  have hn1 : 1 ≤ n' := by omega
  have hne' := hne.symm
  refine S_seq ?_
  show W1 _ [(S "self", .ref x), (S "number", .int num), (S "name", .bytes name), (S "octets", .bytes oct)] _ _ _ _
  repeat' walk_at "w"
  refine ⟨_, _, by kernel_rfl, m_inst C' (by walk_at "at") (by walk_at "at") (f := 76) (by kernel_rfl) (by kernel_rfl), ?_⟩
  repeat' walk_at "w"
  refine begin_ok C' hH' hn1 (.inl rfl) (by walk_at "at") (by walk_at "at") ?_
  repeat' walk_at "w"
  refine ⟨rfl, ?_⟩
  rw [upd_upd, upd_upd, upd_comm hne, upd_upd]
  exact h x d hx hd hne
theorem initD_ok (C : c.Ok) (hH : c.A.handled = none) (hn : 2 ≤ c.n) {num : Int} {name oct : List UInt8} {disk : Addr} {es : List (List UInt8 × MV)} {cr app : Bool} (hdk : σ disk = some (.bd es)) (hk : getK es name = some (.bytes oct)) (hz : oct.length ≤ 1000)
    (h : ∀ x d, σ x = none → σ d = none → d ≠ x → Q (.ref x) (upd (upd σ x (.inst 280 d)) d (wO num name cr true 0 .none disk (if app = true then oct.length else 0)))) : CallR c loc σ (.ref 280) [.int num, .bytes name, .ref disk, .bool cr, .bool app] Q X := by
  refine call_new C hH (by omega) (fn242 _) (by kernel_rfl) rfl ?_
  intro x d hx hd hne H n' A frames fr fix L hn' hH' C' F'
  have hn1 : 1 ≤ n' := by omega
  have hne' := hne.symm
  have hdx : disk ≠ x := ne_fresh hdk hx
  have hdd : disk ≠ d := ne_fresh hdk hd
  refine S_seq ?_
  show W1 _ [(S "self", .ref x), (S "number", .int num), (S "name", .bytes name), (S "disk", .ref disk), (S "can_read", .bool cr), (S "is_appended", .bool app)] _ _ _ _
  repeat' walk_at "w"
  refine ⟨_, _, by kernel_rfl, m_inst C' (by walk_at "at") (by walk_at "at") (f := 76) (by kernel_rfl) (by kernel_rfl), ?_⟩
  repeat' walk_at "w"
  refine begin_ok C' hH' hn1 (.inr (.inl rfl)) (by walk_at "at") (by walk_at "at") ?_
  repeat' walk_at "w"
  cases app
  · repeat' walk_at "w"
    refine ⟨rfl, ?_⟩
    rw [upd_upd, upd_upd, upd_comm hne, upd_upd]
    exact h x d hx hd hne
  · repeat' walk_at "w"
    refine i_bd (by walk_at "at") hk ?_
    repeat' walk_at "w"
    refine c_len_bytes (by omega) ?_
    repeat' walk_at "w"
    refine ⟨rfl, ?_⟩
    rw [upd_upd, upd_upd, upd_comm hne, upd_upd]
    exact h x d hx hd hne
theorem initS_ok (C : c.Ok) (hH : c.A.handled = none) (hn : 2 ≤ c.n) {num : Int} {name : List UInt8}
    (h : ∀ x σ', (∀ a o, σ a = some o → σ' a = some o) → Q (.ref x) σ') : CallR c loc σ (.ref 320) [.int num, .bytes name] Q X := by
  refine call_new C hH (by omega) (fn296 _) (by kernel_rfl) rfl ?_
  intro x d hx hd hne H n' A frames fr fix L hn' hH' C' F'
  have hn1 : 1 ≤ n' := by omega
  have hne' := hne.symm
  refine S_seq ?_
  show W1 _ [(S "self", .ref x), (S "number", .int num), (S "name", .bytes name)] _ _ _ _
  repeat' walk_at "w"
  refine ⟨_, _, by kernel_rfl, m_inst C' (by walk_at "at") (by walk_at "at") (f := 76) (by kernel_rfl) (by kernel_rfl), ?_⟩
  repeat' walk_at "w"
  refine begin_ok C' hH' hn1 (.inr (.inr rfl)) (by walk_at "at") (by walk_at "at") ?_
  repeat' walk_at "w"
  refine E_list C' ?_
  repeat' walk_at "w"
  refine ⟨leB rfl, fun r hr => ?_⟩
  have hrx : x ≠ r := fun e => by rw [← e, upd_ne hne', upd_self] at hr; cases hr
  have hrd : d ≠ r := fun e => by rw [← e, upd_self] at hr; cases hr
  repeat' walk_at "w"
  refine ⟨rfl, h x _ fun a o q => ?_⟩
  have h1 : a ≠ x := ne_fresh q hx
  have h2 : a ≠ d := ne_fresh q hd
  have h3 : a ≠ r := fun e => by rw [← e, upd_ne h2, upd_ne h1, upd_ne h2] at hr; rw [hr] at q; cases q
  walk_at "at"
end
section
variable {c : Cx} {loc : Loc} {σ : MHeap} {α β : Type} {X : MV → MHeap → Prop} {Q : MV → MHeap → Prop} {h h' : Heap} {a d : Addr} {Kt : MF → Loc → MHeap → Prop} {B : Bool → MHeap → Prop}
theorem posR_ok (C : c.Ok) (hH : c.A.handled = none) (hn : 3 ≤ c.n) {x d : Addr} {num : Int} {name oct : List UInt8} {op : Bool} {place : Int} {last : MV} {at_ : Nat} (hx : σ x = some (.inst 226 d)) (hd : σ d = some (rO num name op place last oct at_))
    (h1 : op = true → Q (.int at_) σ) (h2 : op = false → Thr σ X b_ioerror) : CallR c loc σ (.ref 216) [.ref x] Q X := by
  refine call_fn C hH (by omega) (fn216 _) rfl (loc₀ := [(S "self", .ref x)]) rfl ?_
  intro H n' A frames fr fix L hn' hH' C' F'
  have hn2 : 2 ≤ n' := by omega
  refine S_seq ?_
  repeat' walk_at "w"
  refine ⟨_, _, by kernel_rfl, m_inst C' (by walk_at "at") (by walk_at "at") (f := 111) (by kernel_rfl) (by kernel_rfl), ?_⟩
  repeat' walk_at "w"
  refine check_open_ok C' hH' hn2 (.inl rfl) hx hd (fun _ ho => ?_) (fun h => nomatch h) (fun _ ho => h2 ho)
  repeat' walk_at "w"
  refine c_int_bool ?_
  repeat' walk_at "w"
  have := h1 ho
  simpa [retOf] using this
theorem posD_ok (C : c.Ok) (hH : c.A.handled = none) (hn : 3 ≤ c.n) {x d : Addr} {num : Int} {name : List UInt8} {cr op : Bool} {place : Int} {last : MV} {disk : Addr} {at_ : Nat} (hx : σ x = some (.inst 280 d)) (hd : σ d = some (wO num name cr op place last disk at_))
    (h1 : op = true → Q (.int at_) σ) (h2 : op = false → Thr σ X b_ioerror) : CallR c loc σ (.ref 270) [.ref x] Q X := by
  refine call_fn C hH (by omega) (fn270 _) rfl (loc₀ := [(S "self", .ref x)]) rfl ?_
  intro H n' A frames fr fix L hn' hH' C' F'
  have hn2 : 2 ≤ n' := by omega
  refine S_seq ?_
  repeat' walk_at "w"
  refine ⟨_, _, by kernel_rfl, m_inst C' (by walk_at "at") (by walk_at "at") (f := 111) (by kernel_rfl) (by kernel_rfl), ?_⟩
  repeat' walk_at "w"
  refine check_open_ok C' hH' hn2 (.inr rfl) hx hd (fun _ ho => ?_) (fun h => nomatch h) (fun _ ho => h2 ho)
  repeat' walk_at "w"
  refine c_int_bool ?_
  repeat' walk_at "w"
  have := h1 ho
  simpa [retOf] using this
theorem fetchR_ok (C : c.Ok) (hH : c.A.handled = none) (hn : 1 ≤ c.n) {x d : Addr} {num : Int} {name oct : List UInt8} {op : Bool} {place : Int} {last : MV} {at_ : Nat} (hx : σ x = some (.inst 226 d)) (hd : σ d = some (rO num name op place last oct at_)) (hz : oct.length ≤ 1000)
    (h1 : ∀ h : at_ < oct.length, Q (.int oct[at_].toNat) (upd σ d (rO num name op place last oct (at_ + 1)))) (h2 : oct.length ≤ at_ → Q .none σ) : CallR c loc σ (.ref 202) [.ref x] Q X := by
  refine call_fn C hH (by omega) (fn202 _) rfl (loc₀ := [(S "self", .ref x)]) rfl ?_
  intro H n' A frames fr fix L hn' hH' C' F'
  have hne : x ≠ d := ne_of hx hd nofun
  refine S_seq ?_
  repeat' walk_at "w"
  refine c_len_bytes (by omega) ?_
  repeat' walk_at "w"
  refine ite_of (fun hz' => ?_) (fun hz' => ?_)
  · repeat' walk_at "w"
    exact h2 (by simpa using hz')
  · repeat' walk_at "w"
    have hlt : at_ < oct.length := by simpa using hz'
    refine i_bytes (by omega) (by omega) (by omega) ?_
    have := h1 hlt
    rw [show ((at_ : Int) + 1 - 1).toNat = at_ by omega, show oct.getD at_ 0 = oct[at_] by simp [hlt]]
    exact this
theorem fetchD_ok (C : c.Ok) (hH : c.A.handled = none) (hn : 1 ≤ c.n) {x d disk : Addr} {num : Int} {name oct : List UInt8} {cr op : Bool} {place : Int} {last : MV} {at_ : Nat} {es : List (List UInt8 × MV)} (hx : σ x = some (.inst 280 d)) (hd : σ d = some (wO num name cr op place last disk at_)) (hdk : σ disk = some (.bd es)) (hk : getK es name = some (.bytes oct)) (hz : oct.length ≤ 1000)
    (h1 : ∀ h : at_ < oct.length, Q (.int oct[at_].toNat) (upd σ d (wO num name cr op place last disk (at_ + 1)))) (h2 : oct.length ≤ at_ → Q .none σ) : CallR c loc σ (.ref 249) [.ref x] Q X := by
  refine call_fn C hH (by omega) (fn249 _) rfl (loc₀ := [(S "self", .ref x)]) rfl ?_
  intro H n' A frames fr fix L hn' hH' C' F'
  have hne : x ≠ d := ne_of hx hd nofun
  refine S_seq ?_
  repeat' walk_at "w"
  refine ⟨_, _, by kernel_rfl, m_dget hdk, ?_⟩
  repeat' walk_at "w"
  refine c_get C' hdk ?_
  rw [hk]
  repeat' walk_at "w"
  refine c_len_bytes (by omega) ?_
  repeat' walk_at "w"
  refine ite_of (fun hz' => ?_) (fun hz' => ?_)
  · repeat' walk_at "w"
    exact h2 (by simpa using hz')
  · repeat' walk_at "w"
    have hlt : at_ < oct.length := by simpa using hz'
    refine i_bytes (by omega) (by omega) (by omega) ?_
    have := h1 hlt
    rw [show ((at_ : Int) + 1 - 1).toNat = at_ by omega, show oct.getD at_ 0 = oct[at_] by simp [hlt]]
    exact this
end
section
variable {c : Cx} {loc : Loc} {σ : MHeap} {α β : Type} {X : MV → MHeap → Prop} {Q : MV → MHeap → Prop} {h h' : Heap} {a d : Addr} {Kt : MF → Loc → MHeap → Prop} {B : Bool → MHeap → Prop}
theorem setR_ok (C : c.Ok) (hH : c.A.handled = none) (hn : 3 ≤ c.n) {x d : Addr} {num : Int} {name oct : List UInt8} {op : Bool} {place : Int} {last : MV} {at_ : Nat} {p : Int} (hx : σ x = some (.inst 226 d)) (hd : σ d = some (rO num name op place last oct at_)) (hz : oct.length ≤ 1000)
    (h1 : op = true → ∀ q : Nat, p = q → q ≤ oct.length → Q .none (upd σ d (rO num name true q .none oct q))) (h2 : op = false → Thr σ X b_ioerror) (h3 : op = true → p < 0 → Thr σ X b_rangecheck) (h4 : op = true → oct.length < p → Thr σ X b_ioerror) : CallR c loc σ (.ref 223) [.ref x, .int p] Q X := by
  refine call_fn C hH (by omega) (fn223 _) rfl (loc₀ := [(S "self", .ref x), (S "place", .int p)]) rfl ?_
  intro H n' A frames fr fix L hn' hH' C' F'
  have hn2 : 2 ≤ n' := by omega
  have hn1 : 1 ≤ n' := by omega
  have hne : x ≠ d := ne_of hx hd nofun
  refine S_seq ?_
  repeat' walk_at "w"
  refine ⟨_, _, by kernel_rfl, m_inst C' (by walk_at "at") (by walk_at "at") (f := 111) (by kernel_rfl) (by kernel_rfl), ?_⟩
  repeat' walk_at "w"
  refine check_open_ok C' hH' hn2 (.inl rfl) hx hd (fun _ ho => ?_) (fun h => nomatch h) (fun _ ho => h2 ho)
  subst ho
  repeat' walk_at "w"
  refine ite_of (fun hp => ?_) (fun hp => ?_)
  · repeat' walk_at "w"
    exact S_thr C' hH' hn1 (h3 rfl (by simpa using hp)) (by kernel_rfl)
  · repeat' walk_at "w"
    refine c_len_bytes (by omega) ?_
    repeat' walk_at "w"
    refine ite_of (fun hq => ?_) (fun hq => ?_)
    · repeat' walk_at "w"
      exact S_thr C' hH' hn1 (h4 rfl (by simpa using hq)) (by kernel_rfl)
    · have hp' : 0 ≤ p := by simpa using hp
      have hq' : p ≤ oct.length := by simpa using hq
      obtain ⟨q, rfl⟩ := Int.eq_ofNat_of_zero_le hp'
      repeat' walk_at "w"
      refine S_tuple hH' ?_ rfl rfl rfl
      repeat' walk_at "w"
      refine ⟨leB (by kernel_rfl), rfl, A_cons fun u hu => A_attr hu ?_⟩
      repeat' walk_at "w"
      refine A_cons fun u hu => A_attr hu ?_
      repeat' walk_at "w"
      refine A_cons fun u hu => A_attr hu ?_
      repeat' walk_at "w"
      refine A_cons fun u hu => A_attr hu ?_
      repeat' walk_at "w"
      refine A_nil ?_
      rw [upd_upd, upd_upd, upd_upd]
      exact h1 rfl q rfl (by omega)
theorem setD_ok (C : c.Ok) (hH : c.A.handled = none) (hn : 3 ≤ c.n) {x d disk : Addr} {num : Int} {name oct : List UInt8} {cr op : Bool} {place : Int} {last : MV} {at_ : Nat} {p : Int} {es : List (List UInt8 × MV)} (hx : σ x = some (.inst 280 d)) (hd : σ d = some (wO num name cr op place last disk at_)) (hdk : σ disk = some (.bd es)) (hk : op = true → getK es name = some (.bytes oct)) (hz : oct.length ≤ 1000)
    (h1 : op = true → ∀ q : Nat, p = q → q ≤ oct.length → Q .none (upd σ d (wO num name cr true q .none disk q))) (h2 : op = false → Thr σ X b_ioerror) (h3 : op = true → p < 0 → Thr σ X b_rangecheck) (h4 : op = true → oct.length < p → Thr σ X b_ioerror) : CallR c loc σ (.ref 277) [.ref x, .int p] Q X := by
  refine call_fn C hH (by omega) (fn277 _) rfl (loc₀ := [(S "self", .ref x), (S "place", .int p)]) rfl ?_
  intro H n' A frames fr fix L hn' hH' C' F'
  have hn2 : 2 ≤ n' := by omega
  have hn1 : 1 ≤ n' := by omega
  have hne : x ≠ d := ne_of hx hd nofun
  refine S_seq ?_
  repeat' walk_at "w"
  refine ⟨_, _, by kernel_rfl, m_inst C' (by walk_at "at") (by walk_at "at") (f := 111) (by kernel_rfl) (by kernel_rfl), ?_⟩
  repeat' walk_at "w"
  refine check_open_ok C' hH' hn2 (.inr rfl) hx hd (fun _ ho => ?_) (fun h => nomatch h) (fun _ ho => h2 ho)
  subst ho
  repeat' walk_at "w"
  refine ite_of (fun hp => ?_) (fun hp => ?_)
  · repeat' walk_at "w"
    exact S_thr C' hH' hn1 (h3 rfl (by simpa using hp)) (by kernel_rfl)
  · repeat' walk_at "w"
    refine ⟨_, _, by kernel_rfl, m_dget hdk, ?_⟩
    repeat' walk_at "w"
    refine c_get C' hdk ?_
    rw [hk rfl]
    repeat' walk_at "w"
    refine c_len_bytes (by omega) ?_
    repeat' walk_at "w"
    refine ite_of (fun hq => ?_) (fun hq => ?_)
    · repeat' walk_at "w"
      exact S_thr C' hH' hn1 (h4 rfl (by simpa using hq)) (by kernel_rfl)
    · have hp' : 0 ≤ p := by simpa using hp
      have hq' : p ≤ oct.length := by simpa using hq
      obtain ⟨q, rfl⟩ := Int.eq_ofNat_of_zero_le hp'
      repeat' walk_at "w"
      refine S_tuple hH' ?_ rfl rfl rfl
      repeat' walk_at "w"
      refine ⟨leB (by kernel_rfl), rfl, A_cons fun u hu => A_attr hu ?_⟩
      repeat' walk_at "w"
      refine A_cons fun u hu => A_attr hu ?_
      repeat' walk_at "w"
      refine A_cons fun u hu => A_attr hu ?_
      repeat' walk_at "w"
      refine A_cons fun u hu => A_attr hu ?_
      repeat' walk_at "w"
      refine A_nil ?_
      rw [upd_upd, upd_upd, upd_upd]
      exact h1 rfl q rfl (by omega)
end
section
variable {c : Cx} {loc : Loc} {σ : MHeap} {α β : Type} {X : MV → MHeap → Prop} {Q : MV → MHeap → Prop} {h h' : Heap} {a d : Addr} {Kt : MF → Loc → MHeap → Prop} {B : Bool → MHeap → Prop}
theorem clipN (n k : Nat) : clipAt n (k : Int) = min k n := by
  unfold clipAt
  have h : ¬ ((k : Int) < 0) := by omega
  simp only [h, if_false]
  omega
theorem cut_to {γ : Type} (k : Nat) (x : List γ) : cut none (some (k : Int)) x = x.take k := by
  simp only [cut, Option.elim_none, Option.elim_some, List.drop_zero, Nat.sub_zero, clipN]
  by_cases h : k ≤ x.length
  · rw [Nat.min_eq_left h]
  · rw [Nat.min_eq_right (by omega), List.take_of_length_le (Nat.le_refl _), List.take_of_length_le (by omega)]
theorem cut_from {γ : Type} (k : Nat) (x : List γ) : cut (some (k : Int)) none x = x.drop k := by
  simp only [cut, Option.elim_none, Option.elim_some, clipN]
  by_cases h : k ≤ x.length
  · rw [Nat.min_eq_left h, List.take_of_length_le (by simp)]
  · rw [Nat.min_eq_right (by omega), List.drop_of_length_le (Nat.le_refl _), List.drop_of_length_le (by omega)]
    simp
noncomputable def splice (k : Nat) (o w : List UInt8) : List UInt8 := w.take k ++ o ++ w.drop (k + o.length)
theorem c_int_false (h : Q (.int 0) σ) : CallR c loc σ (ty "int") [.bool false] Q X := c_int_bool h
theorem o_isub0 {a : Int} (h : Q (.int a) σ) : Op2 c loc σ (inplaceOp .Sub) (.int a) (.int 0) Q X := o_isub (by rw [Int.sub_zero]; exact h)
theorem put_ok (C : c.Ok) (hH : c.A.handled = none) (hn : 1 ≤ c.n) {x d disk : Addr} {num : Int} {name oct o : List UInt8} {cr op : Bool} {place : Int} {last : MV} {at_ : Nat} {es : List (List UInt8 × MV)} (hx : σ x = some (.inst 280 d)) (hd : σ d = some (wO num name cr op place last disk at_)) (hdk : σ disk = some (.bd es)) (hk : getK es name = some (.bytes oct)) (hz : oct.length ≤ 1000) (ho : o.length ≤ 1000) (hes : es.length ≤ 1000) (hat : at_ ≤ oct.length)
    (h : Q .none (upd (upd σ disk (.bd (putK es name (.bytes (splice at_ o oct))))) d (wO num name cr op ((at_ + o.length : Nat) : Int) last disk (at_ + o.length)))) : CallR c loc σ (.ref 256) [.ref x, .bytes o] Q X := by
  refine call_fn C hH (by omega) (fn256 _) rfl (loc₀ := [(S "self", .ref x), (S "octets", .bytes o)]) rfl ?_
  intro H n' A frames fr fix L hn' hH' C' F'
  have hne : x ≠ d := ne_of hx hd nofun
  have hne1 : disk ≠ d := ne_of hdk hd nofun
  have hne2 : disk ≠ x := ne_of hdk hx nofun
  refine S_seq ?_
  repeat' walk_at "w"
  refine c_int_false ?_
  refine o_isub0 ?_
  repeat' walk_at "w"
  refine ⟨_, _, by kernel_rfl, m_dget (by walk_at "at"), ?_⟩
  repeat' walk_at "w"
  refine c_get C' (by walk_at "at") ?_
  rw [hk]
  repeat' walk_at "w"
  refine s_bytes (by omega) ?_
  repeat' walk_at "w"
  refine c_len_bytes (by omega) ?_
  repeat' walk_at "w"
  refine c_max hH' ?_
  rw [show max (0 : Int) ((at_ : Int) - (oct.length : Int)) = 0 by omega]
  repeat' walk_at "w"
  refine c_bytes0 ?_
  rw [cut_to]
  have ht : (oct.take at_).length ≤ oct.length := by rw [List.length_take]; exact Nat.min_le_right _ _
  refine o_addb (by simp; omega) ?_
  repeat' walk_at "w"
  refine o_addb (by simp; omega) ?_
  repeat' walk_at "w"
  refine c_len_bytes (by omega) ?_
  repeat' walk_at "w"
  refine s_bytes (by omega) ?_
  rw [show (at_ : Int) + (o.length : Int) = ((at_ + o.length : Nat) : Int) by omega, cut_from]
  have ht2 : (oct.drop (at_ + o.length)).length ≤ oct.length := by simp
  refine o_addb (by simp; omega) ?_
  repeat' walk_at "w"
  refine p_bd (by walk_at "at") (by omega) ?_
  repeat' walk_at "w"
  refine c_len_bytes (by omega) ?_
  repeat' walk_at "w"
  rw [upd_upd, upd_upd, upd_comm hne1.symm, upd_upd, List.append_nil]
  exact h
theorem writeD_ok (C : c.Ok) (hH : c.A.handled = none) (hn : 3 ≤ c.n) {x d disk : Addr} {num : Int} {name oct o : List UInt8} {cr op : Bool} {place : Int} {last : MV} {at_ : Nat} {es : List (List UInt8 × MV)} (hx : σ x = some (.inst 280 d)) (hd : σ d = some (wO num name cr op place last disk at_)) (hdk : σ disk = some (.bd es)) (hk : op = true → getK es name = some (.bytes oct)) (hz : oct.length ≤ 1000) (ho : o.length ≤ 1000) (hes : es.length ≤ 1000) (hat : op = true → at_ ≤ oct.length)
    (h : op = true → Q .none (upd (upd σ disk (.bd (putK es name (.bytes (splice at_ o oct))))) d (wO num name cr true ((at_ + o.length : Nat) : Int) last disk (at_ + o.length)))) (h2 : op = false → Thr σ X b_ioerror) : CallR c loc σ (.ref 132) [.ref x, .bytes o] Q X := by
  refine call_fn C hH (by omega) (fn132 _) rfl (loc₀ := [(S "self", .ref x), (S "octets", .bytes o)]) rfl ?_
  intro H n' A frames fr fix L hn' hH' C' F'
  have hn2 : 2 ≤ n' := by omega
  have hn1 : 1 ≤ n' := by omega
  refine S_seq ?_
  repeat' walk_at "w"
  refine ⟨_, _, by kernel_rfl, m_inst C' (by walk_at "at") (by walk_at "at") (f := 111) (by kernel_rfl) (by kernel_rfl), ?_⟩
  repeat' walk_at "w"
  refine check_open_ok C' hH' hn2 (.inr rfl) hx hd (fun _ hop => ?_) (fun h => nomatch h) (fun _ hop => h2 hop)
  subst hop
  repeat' walk_at "w"
  refine ⟨_, _, by kernel_rfl, m_inst C' (by walk_at "at") (by walk_at "at") (f := 256) (by kernel_rfl) (by kernel_rfl), ?_⟩
  repeat' walk_at "w"
  refine put_ok C' hH' hn1 hx hd hdk (hk rfl) hz ho hes (hat rfl) ?_
  repeat' walk_at "w"
  exact h rfl
theorem writeR_ok (C : c.Ok) (hH : c.A.handled = none) (hn : 3 ≤ c.n) {x d : Addr} {num : Int} {name oct o : List UInt8} {op : Bool} {place : Int} {last : MV} {at_ : Nat} (hx : σ x = some (.inst 226 d)) (hd : σ d = some (rO num name op place last oct at_))
    (h2 : Thr σ X b_invalidaccess) : CallR c loc σ (.ref 132) [.ref x, .bytes o] Q X := by
  refine call_fn C hH (by omega) (fn132 _) rfl (loc₀ := [(S "self", .ref x), (S "octets", .bytes o)]) rfl ?_
  intro H n' A frames fr fix L hn' hH' C' F'
  have hn2 : 2 ≤ n' := by omega
  refine S_seq ?_
  repeat' walk_at "w"
  refine ⟨_, _, by kernel_rfl, m_inst C' (by walk_at "at") (by walk_at "at") (f := 111) (by kernel_rfl) (by kernel_rfl), ?_⟩
  repeat' walk_at "w"
  exact check_open_ok C' hH' hn2 (.inl rfl) hx hd (fun h => nomatch h) (fun _ => h2) (fun h => nomatch h)
end
section
variable {c : Cx} {loc : Loc} {σ : MHeap} {α β : Type} {X : MV → MHeap → Prop} {Q : MV → MHeap → Prop} {h h' : Heap} {a d : Addr} {Kt : MF → Loc → MHeap → Prop} {B : Bool → MHeap → Prop}
theorem nextR_ok (C : c.Ok) (hH : c.A.handled = none) (hn : 2 ≤ c.n) {x d : Addr} {num : Int} {name oct : List UInt8} {op : Bool} {place : Int} {last : MV} {at_ : Nat} (hx : σ x = some (.inst 226 d)) (hd : σ d = some (rO num name op place last oct at_)) (hz : oct.length ≤ 1000)
    (h1 : op = true → ∀ h : at_ < oct.length, Q (.int oct[at_].toNat) (upd σ d (rO num name true (place + 1) (.int oct[at_].toNat) oct (at_ + 1)))) (h2 : op = true → oct.length ≤ at_ → Q .none (upd σ d (rO num name false place .none oct at_))) (h3 : op = false → Q .none (upd σ d (rO num name false place .none oct at_))) : CallR c loc σ (.ref 97) [.ref x] Q X := by
  refine call_fn C hH (by omega) (fn97 _) rfl (loc₀ := [(S "self", .ref x)]) rfl ?_
  intro H n' A frames fr fix L hn' hH' C' F'
  have hn1 : 1 ≤ n' := by omega
  have hne : x ≠ d := ne_of hx hd nofun
  refine S_seq ?_
  repeat' walk_at "w"
  cases op
  · repeat' walk_at "w"
    refine ite_t ?_
    repeat' walk_at "w"
    refine ⟨_, _, by kernel_rfl, m_inst C' (by walk_at "at") (by walk_at "at") (f := 153) (by kernel_rfl) (by kernel_rfl), ?_⟩
    repeat' walk_at "w"
    refine close_ok C' hH' hn1 (.inl rfl) (by walk_at "at") (upd_self _ _ _) ?_
    repeat' walk_at "w"
    refine ite_f ?_
    repeat' walk_at "w"
    rw [upd_upd]
    exact h3 rfl
  · repeat' walk_at "w"
    refine ⟨_, _, by kernel_rfl, m_inst C' (by walk_at "at") (by walk_at "at") (f := 202) (by kernel_rfl) (by kernel_rfl), ?_⟩
    repeat' walk_at "w"
    refine fetchR_ok C' hH' hn1 hx hd hz (fun hlt => ?_) (fun hge => ?_)
    · repeat' walk_at "w"
      refine ite_f ?_
      repeat' walk_at "w"
      refine ite_t ?_
      repeat' walk_at "w"
      rw [upd_upd, upd_upd]
      exact h1 rfl hlt
    · repeat' walk_at "w"
      refine ite_t ?_
      repeat' walk_at "w"
      refine ⟨_, _, by kernel_rfl, m_inst C' (by walk_at "at") (by walk_at "at") (f := 153) (by kernel_rfl) (by kernel_rfl), ?_⟩
      repeat' walk_at "w"
      refine close_ok C' hH' hn1 (.inl rfl) (by walk_at "at") (upd_self _ _ _) ?_
      repeat' walk_at "w"
      refine ite_f ?_
      repeat' walk_at "w"
      rw [upd_upd]
      exact h2 rfl hge
theorem nextD_ok (C : c.Ok) (hH : c.A.handled = none) (hn : 2 ≤ c.n) {x d disk : Addr} {num : Int} {name oct : List UInt8} {op : Bool} {place : Int} {last : MV} {at_ : Nat} {es : List (List UInt8 × MV)} (hx : σ x = some (.inst 280 d)) (hd : σ d = some (wO num name true op place last disk at_)) (hdk : σ disk = some (.bd es)) (hk : op = true → getK es name = some (.bytes oct)) (hz : oct.length ≤ 1000)
    (h1 : op = true → ∀ h : at_ < oct.length, Q (.int oct[at_].toNat) (upd σ d (wO num name true true (place + 1) (.int oct[at_].toNat) disk (at_ + 1)))) (h2 : (op = true → oct.length ≤ at_) → Q .none (upd σ d (wO num name true op place .none disk at_))) : CallR c loc σ (.ref 97) [.ref x] Q X := by
  refine call_fn C hH (by omega) (fn97 _) rfl (loc₀ := [(S "self", .ref x)]) rfl ?_
  intro H n' A frames fr fix L hn' hH' C' F'
  have hn1 : 1 ≤ n' := by omega
  have hne : x ≠ d := ne_of hx hd nofun
  refine S_seq ?_
  repeat' walk_at "w"
  cases op
  · repeat' walk_at "w"
    refine ite_t ?_
    repeat' walk_at "w"
    refine ite_f ?_
    repeat' walk_at "w"
    exact h2 nofun
  · repeat' walk_at "w"
    refine ⟨_, _, by kernel_rfl, m_inst C' (by walk_at "at") (by walk_at "at") (f := 249) (by kernel_rfl) (by kernel_rfl), ?_⟩
    repeat' walk_at "w"
    refine fetchD_ok C' hH' hn1 hx hd hdk (hk rfl) hz (fun hlt => ?_) (fun hge => ?_)
    · repeat' walk_at "w"
      refine ite_f ?_
      repeat' walk_at "w"
      refine ite_t ?_
      repeat' walk_at "w"
      rw [upd_upd, upd_upd]
      exact h1 rfl hlt
    · repeat' walk_at "w"
      refine ite_t ?_
      repeat' walk_at "w"
      refine ite_f ?_
      repeat' walk_at "w"
      exact h2 fun _ => hge
end
section
variable {c : Cx} {loc : Loc} {σ : MHeap} {α β : Type} {X : MV → MHeap → Prop} {Q : MV → MHeap → Prop} {h h' : Heap} {a d : Addr} {Kt : MF → Loc → MHeap → Prop} {B : Bool → MHeap → Prop}
theorem S_whileF {t : Expr} {body : List Stmt} {pos : Pos} (loc₀ : Loc) (J : Nat → MHeap → Prop) (k : Nat) (j : J k σ) (hl : ∀ p ∈ loc₀, p ∈ loc)
    (turn : ∀ n σ, J n σ → WB c loc₀ σ t (fun b σ' => if b = true then WS c loc₀ σ' body (fun f l' σ'' => match f with | .next => (∀ p ∈ loc₀, p ∈ l') ∧ ∃ m, m < n ∧ J m σ'' | .cont => (∀ p ∈ loc₀, p ∈ l') ∧ ∃ m, m < n ∧ J m σ'' | .brk => Kt .next l' σ'' | .ret v => Kt (.ret v) l' σ'') (fun _ _ => False) else Kt .next loc₀ σ') (fun _ _ => False)) : W1 c loc σ (.While t body [] pos) Kt X := fun s hs => by
  refine wpAny_While (codeAny_whileLoop (fun n s' => ∃ σ', J n σ' ∧ Sim c loc₀ σ' s'.heap ∧ Steps s s') ?_ k ⟨σ, j, hs.weak hl, .rfl⟩)
  rintro n s' ⟨σ', j', S, st⟩
  refine (turn n σ' j').free S fun b σ₁ s₁ st₁ S₁ h₁ => ?_
  cases b with
  | false => exact wpAny_execs_nil (.of (st.trans st₁) S₁ h₁)
  | true =>
    refine WL.free h₁ S₁ fun f l₂ σ₂ s₂ st₂ S₂ q => ?_
    have stf := (st.trans st₁).trans st₂
    cases f with
    | next => obtain ⟨hl, m, h1, h2⟩ := q; exact ⟨m, h1, σ₂, h2, S₂.weak hl, stf⟩
    | cont => obtain ⟨hl, m, h1, h2⟩ := q; exact ⟨m, h1, σ₂, h2, S₂.weak hl, stf⟩
    | brk => exact .of stf S₂ q
    | ret v => exact .of stf S₂ q
theorem wipe_filter (x : Str) : ∀ l : Loc, ∃ l', Wipe x l l' ∧ ∀ p ∈ l, p.1 ≠ x → p ∈ l'
  | [] => ⟨[], .nil, nofun⟩
  | (y, v) :: r => by
    obtain ⟨l', h1, h2⟩ := wipe_filter x r
    by_cases h : y = x
    · subst h
      exact ⟨l', .here h1, fun p hp hne => by
        rcases List.mem_cons.mp hp with rfl | hp
        · exact absurd rfl hne
        · exact h2 p hp hne⟩
    · exact ⟨(y, v) :: l', .keep (decide_eq_false h) h1, fun p hp hne => by
        rcases List.mem_cons.mp hp with rfl | hp
        · exact .head _
        · exact .tail _ (h2 p hp hne)⟩
noncomputable def ForR (c : Cx) (loc₀ : Loc) (x : Str) (body : List Stmt) (Kt : MF → Loc → MHeap → Prop) (v : MV) (σ₁ : MHeap) : Prop :=
  ∃ (xs : List MV) (st : Nat → Obj → Prop) (P : MHeap → Prop) (J : Nat → MHeap → Prop), ItR c v xs st P ∧ J 0 σ₁ ∧ (∀ i σ, J i σ → P σ) ∧
    (∀ i y σ, xs[i]? = some y → J i σ → ∀ I ob, (c.pin I ob).Ok → WS (c.pin I ob) ((x, y) :: loc₀) σ body (fun f l' σ' => match f with | .next => (∀ p ∈ loc₀, p ∈ l') ∧ J (i + 1) σ' | .cont => (∀ p ∈ loc₀, p ∈ l') ∧ J (i + 1) σ' | .brk => Kt .next l' σ' | .ret v => Kt (.ret v) l' σ') (fun _ _ => False)) ∧
    (∀ σ, J xs.length σ → ∀ l, (∀ p ∈ loc₀, p ∈ l) → Kt .next l σ)
theorem S_forF (C : c.Ok) (H : c.A.handled = none) {x : Str} {px pos : Pos} {iter : Expr} {body : List Stmt} (loc₀ : Loc) (hl : ∀ p ∈ loc₀, p ∈ loc) (hx : ∀ p ∈ loc₀, p.1 ≠ x)
    (h : WE c loc σ (eval iter c.env) (fun v σ₁ => ForR c loc₀ x body Kt v σ₁) X) (hk : c.env.kindOf x = some .local) (hs : ∀ v, foldedSetIterable iter c.env v = pure v) : W1 c loc σ (.For (.Name x px) iter body [] pos) Kt X := by
  refine S_for C H (h.mono (fun v σ₁ q => ?_) fun _ _ z => z) hk hs
  obtain ⟨xs, st, P, J, It, j0, jP, turn, fin⟩ := q
  refine ⟨xs, st, P, fun i l σ => (∀ p ∈ loc₀, p ∈ l) ∧ J i σ, It, ⟨hl, j0⟩, fun i l σ q => jP i σ q.2, fun i y l σ hy q => ?_, fun l σ q => fin σ q.2 l q.1⟩
  obtain ⟨l', w, hw⟩ := wipe_filter x l
  refine ⟨l', w, fun I ob C' => WL.weak (loc' := (x, y) :: loc₀) (WL.mono (turn i y σ hy q.2 I ob C') (fun f l σ z => ?_) fun _ _ z => z) fun p hp => ?_⟩
  · cases f with
    | next => exact z
    | cont => exact z
    | brk => exact z
    | ret v => exact z
  · rcases List.mem_cons.mp hp with rfl | hp
    · exact .head _
    · exact .tail _ (hw p (q.1 p hp) (hx p hp))
theorem drop_ret {f : MV} {vs : List MV} (h : CallR c loc σ f vs (fun v σ' => ∃ σ'', (∀ a o, σ'' a = some o → σ' a = some o) ∧ Q v σ'') X) : CallR c loc σ f vs Q X := fun u us hu hus s hs =>
  wpAny_mono (h u us hu hus s hs) (fun _ _ ⟨h', k, σ', e, S, σ'', hl, q⟩ => ⟨h', k, σ'', e, S.sub hl, q⟩) fun _ _ z => z
theorem take_one {γ : Type} (a k : Nat) (l : List γ) (h : a + k < l.length) : (l.drop a).take (k + 1) = (l.drop a).take k ++ [l[a + k]] := by
  have h2 : k < (l.drop a).length := by rw [List.length_drop]; omega
  rw [List.take_succ_eq_append_getElem h2, List.getElem_drop]
theorem mem_tail {p q : Str × MV} {l : Loc} (h : p ∈ l) : p ∈ q :: l := .tail _ h
theorem read_gen (C : c.Ok) (hH : c.A.handled = none) (hn : 3 ≤ c.n) {x d Cl : Addr} {oct : List UInt8} {isD : Bool} {fs : Bool → Int → MV → Nat → List (Str × MV)} (hx : σ x = some (.inst Cl d)) (hz : oct.length ≤ 1000)
    {op₀ : Bool} {place₀ : Int} {last₀ : MV} {at₀ many : Nat} (hd : σ d = some (.sd (fs op₀ place₀ last₀ at₀))) (hm : many ≤ 100)
    (hmeth : methOk (K c.w.params) Cl 97 "next" = true) (hfs : ∀ op place last a, ((fs op place last a).all fun p => !decide (p.1 = S "next")) = true)
    (hnext : ∀ (c' : Cx), c'.Ok → c'.w = c.w → c'.A.handled = none → 2 ≤ c'.n → ∀ (loc : Loc) (σ' : MHeap) (Q : MV → MHeap → Prop) (op : Bool) (place : Int) (last : MV) (a : Nat), (∀ b o, b ≠ d → σ b = some o → σ' b = some o) → σ' d = some (.sd (fs op place last a)) → (op = true → op₀ = true) →
      (op = true → ∀ h : a < oct.length, Q (.int oct[a].toNat) (upd σ' d (.sd (fs true (place + 1) (.int oct[a].toNat) (a + 1))))) → ((op = true → oct.length ≤ a) → Q .none (upd σ' d (.sd (fs (op && isD) place .none a)))) → CallR c' loc σ' (.ref 97) [.ref x] Q (fun _ _ => False))
    (h : ∀ (r : List UInt8) (op : Bool) (place : Int) (last : MV), r = (if op₀ = true then (oct.drop at₀).take many else []) → op = (if r.length = many then op₀ else op₀ && isD) → Q (.bytes r) (upd σ d (.sd (fs op place last (at₀ + r.length))))) : CallR c loc σ (.ref 118) [.ref x, .int many] Q X := by
  refine drop_ret ?_
  refine call_fn C hH (by omega) (fn118 _) rfl (loc₀ := [(S "self", .ref x), (S "many", .int many)]) rfl ?_
  intro H n' A frames fr fix L hn' hH' C' F'
  have hn2 : 2 ≤ n' := by omega
  have hne : x ≠ d := ne_of hx hd nofun
  refine S_seq ?_
  repeat' walk_at "w"
  refine E_list C' ?_
  repeat' walk_at "w"
  refine ⟨leB rfl, fun fA hfA => ?_⟩
  have hfd : d ≠ fA := ne_fresh hd hfA
  have hfx : x ≠ fA := ne_fresh hx hfA
  repeat' walk_at "w"
  let J : Nat → MHeap → Prop := fun n σ' => ∃ (k : Nat) (op : Bool) (place : Int) (last : MV), n = many - k ∧ k ≤ many ∧ (k = 0 ∨ (op₀ = true ∧ at₀ + k ≤ oct.length)) ∧ op = op₀ ∧
    σ' = upd (upd σ fA (.list (((if op₀ = true then (oct.drop at₀).take k else [])).map fun b => .int b.toNat))) d (.sd (fs op place last (at₀ + k)))
  refine S_whileF [(S "found", .ref fA), (S "self", .ref x), (S "many", .int many)] J many ⟨0, op₀, place₀, last₀, rfl, Nat.zero_le _, .inl rfl, rfl, ?_⟩ (fun p hp => hp) ?_
  · have : (if op₀ = true then (oct.drop at₀).take 0 else []) = [] := by split <;> simp
    rw [this]
    funext b; unfold upd
    by_cases h1 : b = d
    · rw [if_pos h1, h1, if_neg hfd]; exact hd
    · rw [if_neg h1]; rfl
  · rintro n σ' ⟨k, op, place, last, rfl, hk, hk2, rfl, rfl⟩
    have hr : ∀ k', (k' = 0 ∨ (op = true ∧ at₀ + k' ≤ oct.length)) → (if op = true then (oct.drop at₀).take k' else []).length = k' := fun k' hk2 => by
      rcases hk2 with rfl | ⟨h1, h2⟩
      · split <;> simp
      · rw [if_pos h1, List.length_take, List.length_drop]; omega
    have hlen := hr k hk2
    have finish : ∀ (σ' : MHeap) (r : List UInt8) (place : Int) (last : MV) (op' : Bool), σ' = upd (upd σ fA (.list (r.map fun b => .int b.toNat))) d (.sd (fs op' place last (at₀ + r.length))) → r = (if op = true then (oct.drop at₀).take many else []) → op' = (if r.length = many then op else op && isD) → ∃ σ'', (∀ a o, σ'' a = some o → σ' a = some o) ∧ Q (.bytes r) σ'' := fun σ' r place last op' e1 e2 e3 => by
      subst e1
      refine ⟨_, ?_, h r op' place last e2 e3⟩
      intro b o hb
      unfold upd at hb ⊢
      by_cases h1 : b = d
      · rw [if_pos h1] at hb ⊢; exact hb
      · rw [if_neg h1] at hb ⊢
        have : b ≠ fA := fun e => by rw [e, hfA] at hb; cases hb
        rw [if_neg this]; exact hb
    repeat' walk_at "w"
    refine c_len_list (by walk_at "at") (by rw [List.length_map]; omega) ?_
    rw [List.length_map, hlen]
    repeat' walk_at "w"
    refine ite_of (fun hlt => ?_) (fun hge => ?_)
    · have hlt' : k < many := by simpa using hlt
      refine S_seq ?_
      repeat' walk_at "w"
      refine ⟨_, _, by kernel_rfl, m_inst C' (by walk_at "at") (by walk_at "at") (f := 97) hmeth (hfs _ _ _ _), ?_⟩
      refine hnext _ C' rfl hH' hn2 _ _ _ op place last _ (fun b o hb q => ?_) (upd_self _ _ _) (fun h => h) (fun ho hlt => ?_) (fun hge => ?_)
      · have : b ≠ fA := ne_fresh q hfA
        walk_at "at"
      · repeat' walk_at "w"
        refine ite_f ?_
        repeat' walk_at "w"
        refine ⟨_, _, by kernel_rfl, m_append (by walk_at "at"), ?_⟩
        repeat' walk_at "w"
        refine c_append (by walk_at "at") (by rw [List.length_map]; omega) ?_
        refine ⟨fun p hp => mem_tail hp, many - (k + 1), by omega, k + 1, true, place + 1, .int oct[at₀ + k].toNat, rfl, hlt', .inr ⟨ho, by omega⟩, ho.symm, ?_⟩
        rw [upd_upd, upd_comm hfd.symm, upd_upd]
        subst ho
        rw [if_pos rfl, if_pos rfl, take_one _ _ _ hlt, List.map_append]
        exact upd_comm hfd
      · repeat' walk_at "w"
        refine ite_t ?_
        repeat' walk_at "w"
        refine c_bytes hH' (bs := (if op = true then (oct.drop at₀).take k else [])) (by walk_at "at") (by rw [hlen]; omega) ?_
        repeat' walk_at "w"
        refine finish _ _ place .none (op && isD) (by rw [upd_upd, hlen]) ?_ (by rw [hlen, if_neg (by omega)])
        split
        · rename_i ho
          have := hge ho
          rw [List.take_of_length_le (by rw [List.length_drop]; omega), List.take_of_length_le (by rw [List.length_drop]; omega)]
        · rfl
    · repeat' walk_at "w"
      refine c_bytes hH' (bs := (if op = true then (oct.drop at₀).take k else [])) (by walk_at "at") (by rw [hlen]; omega) ?_
      repeat' walk_at "w"
      have hkm : k = many := by
        have : ¬ k < many := by simpa using hge
        omega
      exact finish _ _ place last op (by rw [hlen]) (by rw [hkm]) (by rw [hlen, if_pos hkm])
end
section
variable {c : Cx} {loc : Loc} {σ : MHeap} {α β : Type} {X : MV → MHeap → Prop} {Q : MV → MHeap → Prop} {h h' : Heap} {a d : Addr} {Kt : MF → Loc → MHeap → Prop} {B : Bool → MHeap → Prop}
noncomputable abbrev Cells := List (Addr × MObj)
structure Fits (L : Cells) (σ : MHeap) : Prop where
  nd : (L.map (·.1)).Nodup
  at_ : ∀ p ∈ L, σ p.1 = some p.2
theorem Fits.get {L : Cells} (F : Fits L σ) {x : Addr} {o : MObj} (h : (x, o) ∈ L) : σ x = some o := F.at_ _ h
theorem Fits.perm {L L' : Cells} (F : Fits L σ) (h : L.Perm L') : Fits L' σ := ⟨(h.map _).nodup_iff.mp F.nd, fun p hp => F.at_ p (h.mem_iff.mpr hp)⟩
theorem Fits.put {A B : Cells} {x : Addr} {o o' : MObj} (F : Fits (A ++ (x, o) :: B) σ) : Fits (A ++ (x, o') :: B) (upd σ x o') := by
  have nd := F.nd
  refine ⟨by simpa using nd, fun p hp => ?_⟩
  have hne : ∀ q ∈ A ++ B, q.1 ≠ x := fun q hq e => by
    have nd' : ((x, o) :: (A ++ B)).map (·.1) |>.Nodup := ((List.perm_middle (a := (x, o)) (l₁ := A) (l₂ := B)).map (·.1)).nodup_iff.mp nd
    rw [List.map_cons, List.nodup_cons] at nd'
    exact nd'.1 (List.mem_map.mpr ⟨q, hq, e⟩)
  rcases List.mem_append.mp hp with hp | hp
  · exact (upd_ne (hne p (List.mem_append_left _ hp))).trans (F.at_ p (List.mem_append_left _ hp))
  · rcases List.mem_cons.mp hp with rfl | hp
    · exact upd_self _ _ _
    · exact (upd_ne (hne p (List.mem_append_right _ hp))).trans (F.at_ p (List.mem_append_right _ (.tail _ hp)))
theorem Fits.fresh {L : Cells} (F : Fits L σ) {x : Addr} {o : MObj} (h : σ x = none) : Fits ((x, o) :: L) (upd σ x o) := by
  have hne : ∀ q ∈ L, q.1 ≠ x := fun q hq e => by
    have := F.at_ q hq
    rw [e, h] at this; cases this
  refine ⟨by rw [List.map_cons, List.nodup_cons]; exact ⟨fun hm => by obtain ⟨q, hq, e⟩ := List.mem_map.mp hm; exact hne q hq e, F.nd⟩, fun p hp => ?_⟩
  rcases List.mem_cons.mp hp with rfl | hp
  · exact upd_self _ _ _
  · exact (upd_ne (hne p hp)).trans (F.at_ p hp)
theorem Fits.garbage {L : Cells} (F : Fits L σ) {x : Addr} {o : MObj} (h : σ x = none) : Fits L (upd σ x o) := ⟨F.nd, fun p hp => by
  have := F.at_ p hp
  exact (upd_ne fun e => by rw [e, h] at this; cases this).trans this⟩
theorem Fits.sub {L L' : Cells} (F : Fits L σ) (h : L'.Sublist L) : Fits L' σ := ⟨(h.map _).nodup F.nd, fun p hp => F.at_ p (h.subset hp)⟩
theorem Fits.weak {L : Cells} {σ' : MHeap} (F : Fits L σ) (h : ∀ b o, σ b = some o → σ' b = some o) : Fits L σ' := ⟨F.nd, fun p hp => h _ _ (F.at_ p hp)⟩
structure Row where
  a : Addr
  f : Addr
  d : Addr
  way : List UInt8
  of : Nat
  was : List UInt8
  op : Bool
  at_ : Nat
  num : Int
  name : List UInt8
  fop : Bool
  fat : Nat
  place : Int
  last : MV
noncomputable def wayR (way : List UInt8) : Bool := way == [114]
noncomputable def wayCr (way : List UInt8) : Bool := way == [114, 43] || way == [119, 43] || way == [97, 43]
noncomputable abbrev rowO (r : Row) : MObj := .sd [(S "file", .ref r.f), (S "way", .bytes r.way), (S "of", .int r.of), (S "was", .bytes r.was), (S "is_open", .bool r.op), (S "at", .int r.at_)]
noncomputable def fileO (dk : Addr) (r : Row) : MObj := if wayR r.way = true then rO r.num r.name r.fop r.place r.last r.was r.fat else wO r.num r.name (wayCr r.way) r.fop r.place r.last dk r.fat
noncomputable def fileC (r : Row) : Addr := if wayR r.way = true then 226 else 280
noncomputable def rowCells (dk : Addr) (r : Row) : Cells := [(r.a, rowO r), (r.f, .inst (fileC r) r.d), (r.d, fileO dk r)]
structure St where
  deck : Addr
  cA : Addr
  own : Addr
  nm : Addr
  ocA : Addr
  rwA : Addr
  T : Addr
  td : Addr
  dk : Addr
  opA : Addr
  si : Addr
  so : Addr
  se : Addr
  cs : List Int
  k : Nat
  names : List (List UInt8 × Nat)
  octets : List (List UInt8)
  rows : List Row
  most : Nat
  many : Int
  opened : List Addr
  disk : List (List UInt8 × List UInt8)
noncomputable abbrev ownO (s : St) : MObj := .sd [(S "names", .ref s.nm), (S "octets", .ref s.ocA), (S "rows", .ref s.rwA), (S "most", .int s.most)]
noncomputable abbrev tdO (s : St) : MObj := .sd [(S "disk", .ref s.dk), (S "most", .int s.most), (S "many", .int s.many), (S "opened", .ref s.opA), (S "std_in", .ref s.si), (S "std_out", .ref s.so), (S "std_err", .ref s.se)]
noncomputable def bdN (names : List (List UInt8 × Nat)) : MObj := .bd (names.map fun p => (p.1, .int p.2))
noncomputable def bdD (disk : List (List UInt8 × List UInt8)) : MObj := .bd (disk.map fun p => (p.1, .bytes p.2))
noncomputable def St.fixed (s : St) : Cells := [(s.deck, deckO s.cA s.k), (s.cA, .list (s.cs.map .int)), (s.own, ownO s), (s.nm, bdN s.names), (s.ocA, .list (s.octets.map .bytes)), (s.rwA, .list (s.rows.map fun r => .ref r.a)), (s.T, .inst 413 s.td), (s.td, tdO s), (s.dk, bdD s.disk), (s.opA, .list (s.opened.map .ref))]
noncomputable def St.cells (s : St) : Cells := s.fixed ++ s.rows.flatMap (rowCells s.dk)
noncomputable def Inv (E : Cells) (s : St) (σ : MHeap) : Prop := Fits (s.cells ++ E) σ
variable {E : Cells} {s : St}
theorem Inv.fix (I : Inv E s σ) {x : Addr} {o : MObj} (h : (x, o) ∈ s.fixed) : σ x = some o := Fits.get I (List.mem_append_left _ (List.mem_append_left _ h))
theorem Inv.frame (I : Inv E s σ) {x : Addr} {o : MObj} (h : (x, o) ∈ E) : σ x = some o := Fits.get I (List.mem_append_right _ h)
theorem Inv.row (I : Inv E s σ) {r : Row} (hr : r ∈ s.rows) {x : Addr} {o : MObj} (h : (x, o) ∈ rowCells s.dk r) : σ x = some o := Fits.get I (List.mem_append_left _ (List.mem_append_right _ (List.mem_flatMap.mpr ⟨r, hr, h⟩)))
theorem Inv.setk (I : Inv E s σ) (k : Nat) : Inv E { s with k := k } (upd σ s.deck (deckO s.cA k)) := Fits.put (A := []) (o := deckO s.cA s.k) (o' := deckO s.cA k) I
theorem Inv.setnames (I : Inv E s σ) (names : List (List UInt8 × Nat)) : Inv E { s with names := names } (upd σ s.nm (bdN names)) := Fits.put (A := [_, _, _]) (o := bdN s.names) (o' := bdN names) I
theorem Inv.setoctets (I : Inv E s σ) (oc : List (List UInt8)) : Inv E { s with octets := oc } (upd σ s.ocA (.list (oc.map .bytes))) := Fits.put (A := [_, _, _, _]) (o := .list (s.octets.map .bytes)) (o' := .list (oc.map .bytes)) I
theorem Inv.setdisk (I : Inv E s σ) (disk : List (List UInt8 × List UInt8)) : Inv E { s with disk := disk } (upd σ s.dk (bdD disk)) := Fits.put (A := [_, _, _, _, _, _, _, _]) (o := bdD s.disk) (o' := bdD disk) I
theorem Inv.setopened (I : Inv E s σ) (l : List Addr) : Inv E { s with opened := l } (upd σ s.opA (.list (l.map .ref))) := Fits.put (A := [_, _, _, _, _, _, _, _, _]) (o := .list (s.opened.map .ref)) (o' := .list (l.map .ref)) I
theorem Inv.setmany (I : Inv E s σ) (m : Int) : Inv E { s with many := m } (upd σ s.td (tdO { s with many := m })) := Fits.put (A := [_, _, _, _, _, _, _]) (o := tdO s) (o' := tdO { s with many := m }) I
end
section
variable {c : Cx} {loc : Loc} {σ : MHeap} {α β : Type} {X : MV → MHeap → Prop} {Q : MV → MHeap → Prop} {h h' : Heap} {a d : Addr} {Kt : MF → Loc → MHeap → Prop} {B : Bool → MHeap → Prop}
variable {E : Cells} {s : St}
theorem cells_split {R1 R2 : List Row} {r : Row} (h : s.rows = R1 ++ r :: R2) : s.cells ++ E = (s.fixed ++ R1.flatMap (rowCells s.dk)) ++ (rowCells s.dk r ++ (R2.flatMap (rowCells s.dk) ++ E)) := by
  unfold St.cells
  rw [h, List.flatMap_append, List.flatMap_cons]
  simp only [List.append_assoc]
theorem fixed_rows {R : List Row} (h : R.map (·.a) = s.rows.map (·.a)) : ({ s with rows := R } : St).fixed = s.fixed := by
  have e : (R.map fun r => MV.ref r.a) = s.rows.map fun r => MV.ref r.a := by
    have := congrArg (List.map MV.ref) h
    rwa [List.map_map, List.map_map] at this
  unfold St.fixed ownO tdO
  simp only [e]
theorem Inv.setrowA {R1 R2 : List Row} {r r' : Row} (I : Inv E s σ) (h : s.rows = R1 ++ r :: R2) (ha : r'.a = r.a) (hf : r'.f = r.f) (hd : r'.d = r.d) (hc : fileC r' = fileC r) (ho : fileO s.dk r' = fileO s.dk r) : Inv E { s with rows := R1 ++ r' :: R2 } (upd σ r.a (rowO r')) := by
  have e : ({ s with rows := R1 ++ r' :: R2 } : St).cells ++ E = (s.fixed ++ R1.flatMap (rowCells s.dk)) ++ ((r.a, rowO r') :: ([(r.f, .inst (fileC r) r.d), (r.d, fileO s.dk r)] ++ (R2.flatMap (rowCells s.dk) ++ E))) := by
    rw [cells_split (s := { s with rows := R1 ++ r' :: R2 }) rfl, fixed_rows (by rw [h]; simp [ha])]
    simp [rowCells, ha, hf, hd, hc, ho]
  unfold Inv at I ⊢
  rw [e]
  rw [cells_split h] at I
  exact Fits.put (o := rowO r) I
theorem Inv.setrowD {R1 R2 : List Row} {r r' : Row} (I : Inv E s σ) (h : s.rows = R1 ++ r :: R2) (ha : r'.a = r.a) (hf : r'.f = r.f) (hd : r'.d = r.d) (hc : fileC r' = fileC r) (ho : rowO r' = rowO r) : Inv E { s with rows := R1 ++ r' :: R2 } (upd σ r.d (fileO s.dk r')) := by
  have e : ({ s with rows := R1 ++ r' :: R2 } : St).cells ++ E = ((s.fixed ++ R1.flatMap (rowCells s.dk)) ++ [(r.a, rowO r), (r.f, .inst (fileC r) r.d)]) ++ ((r.d, fileO s.dk r') :: (R2.flatMap (rowCells s.dk) ++ E)) := by
    rw [cells_split (s := { s with rows := R1 ++ r' :: R2 }) rfl, fixed_rows (by rw [h]; simp [ha])]
    simp [rowCells, ha, hf, hd, hc, ho]
  have e2 : s.cells ++ E = ((s.fixed ++ R1.flatMap (rowCells s.dk)) ++ [(r.a, rowO r), (r.f, .inst (fileC r) r.d)]) ++ ((r.d, fileO s.dk r) :: (R2.flatMap (rowCells s.dk) ++ E)) := by
    rw [cells_split h]
    simp [rowCells]
  unfold Inv at I ⊢
  rw [e]
  rw [e2] at I
  exact Fits.put I
theorem Inv.garbage (I : Inv E s σ) {x : Addr} {o : MObj} (h : σ x = none) : Inv E s (upd σ x o) := Fits.garbage I h
theorem Inv.push (I : Inv E s σ) {x : Addr} {o : MObj} (h : σ x = none) : Inv ((x, o) :: E) s (upd σ x o) := Fits.perm (Fits.fresh I h) List.perm_middle.symm
theorem Inv.pop {x : Addr} {o : MObj} (I : Inv ((x, o) :: E) s σ) : Inv E s σ := Fits.sub I (List.Sublist.append_left (List.sublist_cons_self _ _) _)
theorem Inv.setE {x : Addr} {o o' : MObj} (I : Inv ((x, o) :: E) s σ) : Inv ((x, o') :: E) s (upd σ x o') := Fits.put (A := s.cells) I
theorem Inv.weak {σ' : MHeap} (I : Inv E s σ) (h : ∀ b o, σ b = some o → σ' b = some o) : Inv E s σ' := Fits.weak I h
theorem Inv.rows_nodup (I : Inv E s σ) : (s.rows.flatMap fun r => [r.a, r.f, r.d]).Nodup := by
  have := (Fits.sub I (L' := s.rows.flatMap (rowCells s.dk)) ((List.sublist_append_right _ _).trans (List.sublist_append_left _ _))).nd
  rw [List.map_flatMap] at this
  exact this
theorem Inv.setopA (I : Inv E s σ) {x : Addr} (h : σ x = none) (l : List Addr) : Inv E { s with opA := x, opened := l } (upd (upd σ x (.list (l.map .ref))) s.td (tdO { s with opA := x })) := by
  have I1 : Fits ((x, .list (l.map .ref)) :: (s.cells ++ E)) (upd σ x (.list (l.map .ref))) := Fits.fresh I h
  have I2 := Fits.put (A := [_, _, _, _, _, _, _, _]) (o := tdO s) (o' := tdO { s with opA := x }) I1
  let A : Cells := [(s.deck, deckO s.cA s.k), (s.cA, .list (s.cs.map .int)), (s.own, ownO s), (s.nm, bdN s.names), (s.ocA, .list (s.octets.map .bytes)), (s.rwA, .list (s.rows.map fun r => .ref r.a)), (s.T, .inst 413 s.td), (s.td, tdO { s with opA := x }), (s.dk, bdD s.disk)]
  let B : Cells := s.rows.flatMap (rowCells s.dk) ++ E
  have I3 : Fits ((x, .list (l.map .ref)) :: (A ++ (s.opA, .list (s.opened.map .ref)) :: B)) (upd (upd σ x (.list (l.map .ref))) s.td (tdO { s with opA := x })) := I2
  have I4 : Fits ((x, .list (l.map .ref)) :: (A ++ B)) (upd (upd σ x (.list (l.map .ref))) s.td (tdO { s with opA := x })) := Fits.sub I3 (List.Sublist.cons_cons _ (List.Sublist.append_left (List.sublist_cons_self _ _) _))
  exact (Fits.perm I4 List.perm_middle.symm : Fits (A ++ (x, .list (l.map .ref)) :: B) _)
theorem Inv.addrow {R : Row} (I : Inv ((R.f, .inst (fileC R) R.d) :: (R.d, fileO s.dk R) :: E) s σ) (h : σ R.a = none) : Inv E { s with rows := s.rows ++ [R] } (upd (upd σ R.a (rowO R)) s.rwA (.list ((s.rows ++ [R]).map fun r => .ref r.a))) := by
  have I1 : Fits ((R.a, rowO R) :: (s.cells ++ ((R.f, .inst (fileC R) R.d) :: (R.d, fileO s.dk R) :: E))) (upd σ R.a (rowO R)) := Fits.fresh I h
  have I2 := Fits.put (A := [_, _, _, _, _, _]) (o := .list (s.rows.map fun r => .ref r.a)) (o' := .list ((s.rows ++ [R]).map fun r => .ref r.a)) I1
  have I3 : Fits ((R.a, rowO R) :: ((({ s with rows := s.rows ++ [R] } : St).fixed ++ s.rows.flatMap (rowCells s.dk)) ++ ((R.f, .inst (fileC R) R.d) :: (R.d, fileO s.dk R) :: E))) _ := I2
  have I4 := Fits.perm I3 List.perm_middle.symm
  have e : ({ s with rows := s.rows ++ [R] } : St).cells ++ E = (({ s with rows := s.rows ++ [R] } : St).fixed ++ s.rows.flatMap (rowCells s.dk)) ++ ((R.a, rowO R) :: (R.f, .inst (fileC R) R.d) :: (R.d, fileO s.dk R) :: E) := by
    unfold St.cells
    rw [List.flatMap_append]
    simp [rowCells]
  unfold Inv
  rw [e]
  exact I4
end
section
variable {c : Cx} {loc : Loc} {σ : MHeap} {α β : Type} {X : MV → MHeap → Prop} {Q : MV → MHeap → Prop} {h h' : Heap} {a d : Addr} {Kt : MF → Loc → MHeap → Prop} {B : Bool → MHeap → Prop}
variable {E : Cells} {s : St}
theorem Inv.all (I : Inv E s σ) : σ s.deck = some (deckO s.cA s.k) ∧ σ s.cA = some (.list (s.cs.map .int)) ∧ σ s.own = some (ownO s) ∧ σ s.nm = some (bdN s.names) ∧ σ s.ocA = some (.list (s.octets.map .bytes)) ∧ σ s.rwA = some (.list (s.rows.map fun r => .ref r.a)) ∧ σ s.T = some (.inst 413 s.td) ∧ σ s.td = some (tdO s) ∧ σ s.dk = some (bdD s.disk) ∧ σ s.opA = some (.list (s.opened.map .ref)) :=
  ⟨I.fix (by simp [St.fixed]), I.fix (by simp [St.fixed]), I.fix (by simp [St.fixed]), I.fix (by simp [St.fixed]), I.fix (by simp [St.fixed]), I.fix (by simp [St.fixed]), I.fix (by simp [St.fixed]), I.fix (by simp [St.fixed]), I.fix (by simp [St.fixed]), I.fix (by simp [St.fixed])⟩
theorem new_number_ok (C : c.Ok) (hH : c.A.handled = none) (hn : 1 ≤ c.n) (I : Inv E s σ) (h : ∀ σ', Inv E { s with many := s.many + 1 } σ' → Q (.int (s.many + 1)) σ') : CallR c loc σ (.ref 351) [.ref s.T] Q X := by
  refine call_fn C hH hn (fn351 _) rfl (loc₀ := [(S "self", .ref s.T)]) rfl ?_
  intro H n' A frames fr fix L hn' hH' C' F'
  obtain ⟨hdeck, hcA, hown, hnm, hocA, hrwA, hT, htd, hdk, hopA⟩ := I.all
  have hne : s.T ≠ s.td := ne_of hT htd nofun
  have fin := h _ (I.setmany (s.many + 1))
  refine S_seq ?_
  repeat' walk_at "w"
  exact fin
theorem ite_no {z : Bool} {A B : Prop} (h : z = false) (h2 : B) : if z = true then A else B := by rw [h]; exact ite_f h2
theorem ite_yes {z : Bool} {A B : Prop} (h : z = true) (h2 : A) : if z = true then A else B := by rw [h]; exact ite_t h2
theorem standard_ok (C : c.Ok) (hH : c.A.handled = none) (hn : 2 ≤ c.n) (I : Inv E s σ) {name access : List UInt8} (hz : name.length ≤ 1000) (h0 : name ∉ [[37, 115, 116, 100, 105, 110], [37, 115, 116, 100, 111, 117, 116], [37, 115, 116, 100, 101, 114, 114]])
    (h1 : (cut none (some 1) name == [37]) = false → Q .none σ) (h2 : (cut none (some 1) name == [37]) = true → Thr σ X b_undefinedfilename) : CallR c loc σ (.ref 358) [.ref s.T, .bytes name, .bytes access] Q X := by
  have hno : ∀ y ∈ [[37, 115, 116, 100, 105, 110], [37, 115, 116, 100, 111, 117, 116], [37, 115, 116, 100, 101, 114, 114]], (name == y) = false := fun y hy => by
    rw [beq_eq_false_iff_ne]
    exact fun e => h0 (e ▸ hy)
  refine call_fn C hH (by omega) (fn358 _) rfl (loc₀ := [(S "self", .ref s.T), (S "name", .bytes name), (S "access", .bytes access)]) rfl ?_
  intro H n' A frames fr fix L hn' hH' C' F'
  have hn1 : 1 ≤ n' := by omega
  obtain ⟨hdeck, hcA, hown, hnm, hocA, hrwA, hT, htd, hdk, hopA⟩ := I.all
  refine S_seq ?_
  repeat' walk_at "w"
  refine ite_no (hno _ (by simp)) ?_
  repeat' walk_at "w"
  refine ite_no (hno _ (by simp)) ?_
  repeat' walk_at "w"
  refine ite_no (hno _ (by simp)) ?_
  repeat' walk_at "w"
  refine s_bytes (by omega) ?_
  repeat' walk_at "w"
  refine ite_of (fun hz => ?_) (fun hz => ?_)
  · repeat' walk_at "w"
    exact S_thr C' hH' hn1 (h2 hz) (by kernel_rfl)
  · repeat' walk_at "w"
    refine ite_f ?_
    repeat' walk_at "w"
    exact h1 hz
theorem fileO_fO (dk : Addr) (r : Row) : ∃ cr k v, fileO dk r = fO r.num r.name cr (!wayR r.way) r.fop r.place r.last k v r.fat := by
  unfold fileO
  cases h : wayR r.way
  · exact ⟨_, _, _, if_neg Bool.false_ne_true⟩
  · exact ⟨_, _, _, if_pos rfl⟩
theorem fileC_or (r : Row) : fileC r = 226 ∨ fileC r = 280 := by
  unfold fileC
  split
  · exact .inl rfl
  · exact .inr rfl
theorem Inv.file (I : Inv E s σ) {r : Row} (hr : r ∈ s.rows) : ∃ C d cr k v, (C = 226 ∨ C = 280) ∧ σ r.f = some (.inst C d) ∧ σ d = some (fO r.num r.name cr (!wayR r.way) r.fop r.place r.last k v r.fat) := by
  obtain ⟨cr, k, v, e⟩ := fileO_fO s.dk r
  exact ⟨fileC r, r.d, cr, k, v, fileC_or r, I.row hr (by simp [rowCells]), e ▸ I.row hr (by simp [rowCells])⟩
theorem getK_map {K' V W : Type} [DecidableEq K'] {g : V → W} (l : List (K' × V)) (x : K') : getK (l.map fun p => (p.1, g p.2)) x = (getK l x).map g := by
  unfold getK
  rw [List.find?_map]
  show (Option.map _ (l.find? fun p => decide (p.1 = x))).map _ = _
  cases l.find? fun p => decide (p.1 = x) <;> rfl
theorem map_at2 {γ : Type} {g : γ → MV} {l : List γ} {i : Nat} {y : MV} (h : (l.map g)[i]? = some y) : ∃ x, l[i]? = some x ∧ y = g x := by
  rw [List.getElem?_map] at h
  cases e : l[i]? with
  | none => rw [e] at h; cases h
  | some x => rw [e] at h; cases h; exact ⟨x, rfl, rfl⟩
theorem take_at {γ : Type} {l : List γ} {i : Nat} {x : γ} (h : l[i]? = some x) : l.take (i + 1) = l.take i ++ [x] := by
  obtain ⟨hi, e⟩ := List.getElem?_eq_some_iff.mp h
  rw [List.take_succ_eq_append_getElem hi, e]
theorem check_room_ok (C : c.Ok) (hH : c.A.handled = none) (hn : 2 ≤ c.n) (I : Inv E s σ) {name : List UInt8} {p : Addr → Bool} (hp : ∀ x ∈ s.opened, ∃ r ∈ s.rows, r.f = x ∧ r.fop = p x) (hz : name.length ≤ 1000) (ho : s.opened.length ≤ 100)
    (h1 : ∀ σ' x, Inv E { s with opA := x, opened := s.opened.filter p } σ' → ((s.opened.filter p).length < s.most ∧ (name.length ≤ 255 ∨ (getK s.disk name).isSome = true)) → Q .none σ')
    (h2 : ∀ σ' x, Inv E { s with opA := x, opened := s.opened.filter p } σ' → ¬ ((s.opened.filter p).length < s.most ∧ (name.length ≤ 255 ∨ (getK s.disk name).isSome = true)) → Thr σ' X b_limitcheck) : CallR c loc σ (.ref 363) [.ref s.T, .bytes name] Q X := by
  refine call_fn C hH (by omega) (fn363 _) rfl (loc₀ := [(S "self", .ref s.T), (S "name", .bytes name)]) rfl ?_
  intro H n' A frames fr fix L hn' hH' C' F'
  have hn1 : 1 ≤ n' := by omega
  obtain ⟨hdeck, hcA, hown, hnm, hocA, hrwA, hT, htd, hdk, hopA⟩ := I.all
  refine S_seq ?_
  repeat' walk_at "w"
  refine E_comp C' hH' (cl := []) (by kernel_rfl) (by kernel_rfl) (by kernel_rfl) (by kernel_rfl) (by kernel_rfl) (fun v => by kernel_rfl) ?_
  repeat' walk_at "w"
  refine ⟨_, _, _, fun i ys σ' => σ' = σ ∧ ys = ((s.opened.take i).filter p).map .ref, It_list (xs := s.opened.map .ref) (by rw [List.length_map]; omega), ⟨rfl, rfl⟩, fun i ys σ' j => ?_, fun i ys σ' j => ?_, fun i y ys σ' hy j fr' fix' D hfx Cc => ?_, fun ys σ' j => ?_⟩
  · obtain ⟨rfl, rfl⟩ := j
    exact hopA
  · obtain ⟨rfl, rfl⟩ := j
    rw [List.length_map]
    have h1 := List.length_filter_le p (s.opened.take i)
    have h2 := List.length_take_le' i s.opened
    omega
  · obtain ⟨rfl, rfl⟩ := j
    obtain ⟨x, hx, rfl⟩ := map_at2 hy
    obtain ⟨r, hr, rfl, hpx⟩ := hp x (List.mem_of_getElem? hx)
    obtain ⟨Cl, d, cr, k, v, hc, hf, hd⟩ := I.file hr
    have e : (s.opened.take (i + 1)).filter p = (s.opened.take i).filter p ++ (if r.fop = true then [r.f] else []) := by
      rw [take_at hx, List.filter_append]
      cases hq : r.fop <;> simp [← hpx, hq]
    refine I_one ?_
    rcases hc with rfl | rfl <;>
    · repeat' walk_at "w"
      cases hq : r.fop
      · refine ite_f ⟨rfl, ?_⟩
        rw [e, hq]; simp
      · refine ite_t ?_
        repeat' walk_at "w"
        refine ⟨rfl, ?_⟩
        rw [e, hq]; simp
  · obtain ⟨rfl, rfl⟩ := j
    rw [List.length_map, List.take_length]
    intro x hx
    have I' := I.setopA hx (s.opened.filter p)
    have hTx : s.T ≠ x := ne_fresh hT hx
    have htx : s.td ≠ x := ne_fresh htd hx
    have hTt : s.T ≠ s.td := ne_of hT htd nofun
    have hxt : x ≠ s.td := htx.symm
    have hdt : s.dk ≠ s.td := ne_of hdk htd nofun
    have hdx : s.dk ≠ x := ne_fresh hdk hx
    have hlen := List.length_filter_le p s.opened
    repeat' walk_at "w"
    refine ite_t ?_
    repeat' walk_at "w"
    refine c_len_list (by walk_at "at") (by rw [List.length_map]; omega) ?_
    rw [List.length_map]
    repeat' walk_at "w"
    refine ite_of (fun hz1 => ?_) (fun hz1 => ?_)
    · repeat' walk_at "w"
      have hz1' : (s.most : Int) ≤ ((s.opened.filter p).length : Int) := by simpa using hz1
      exact S_thr C' hH' hn1 (h2 _ x I' (by omega)) (by kernel_rfl)
    · have hz1' : ((s.opened.filter p).length : Int) < (s.most : Int) := by simpa using hz1
      repeat' walk_at "w"
      refine c_len_bytes (by omega) ?_
      repeat' walk_at "w"
      refine o_gt (b := 255) ?_
      repeat' walk_at "w"
      refine ite_of (fun hz2 => ?_) (fun hz2 => ?_)
      · have hz2' : (255 : Int) < (name.length : Int) := by simpa using hz2
        repeat' walk_at "w"
        refine o_notin_bd C' (es := s.disk.map fun p => (p.1, .bytes p.2)) (by walk_at "at") ?_
        rw [getK_map, Option.isSome_map]
        repeat' walk_at "w"
        cases hk : (getK s.disk name).isSome
        · refine ite_t ?_
          repeat' walk_at "w"
          exact S_thr C' hH' hn1 (h2 _ x I' (by rw [hk]; simp; omega)) (by kernel_rfl)
        · refine ite_f ?_
          repeat' walk_at "w"
          exact h1 _ x I' ⟨by omega, .inr hk⟩
      · have hz2' : (name.length : Int) ≤ 255 := by simpa using hz2
        repeat' walk_at "w"
        exact h1 _ x I' ⟨by omega, .inl (by omega)⟩
end
section
variable {c : Cx} {loc : Loc} {σ : MHeap} {α β : Type} {X : MV → MHeap → Prop} {Q : MV → MHeap → Prop} {h h' : Heap} {a d : Addr} {Kt : MF → Loc → MHeap → Prop} {B : Bool → MHeap → Prop}
variable {E : Cells} {s : St}
theorem known_ok (C : c.Ok) (hH : c.A.handled = none) (hn : 2 ≤ c.n) (I : Inv E s σ) {told : List UInt8} (hz : told.length ≤ 1000)
    (h1 : (getK s.disk (plain told)).isSome = true → Q (.bytes (plain told)) σ) (h2 : (getK s.disk (plain told)).isSome = false → Thr σ X b_undefinedfilename) : CallR c loc σ (.ref 389) [.ref s.T, .bytes told] Q X := by
  refine call_fn C hH (by omega) (fn389 _) rfl (loc₀ := [(S "self", .ref s.T), (S "told", .bytes told)]) rfl ?_
  intro H n' A frames fr fix L hn' hH' C' F'
  have hn1 : 1 ≤ n' := by omega
  obtain ⟨hdeck, hcA, hown, hnm, hocA, hrwA, hT, htd, hdk, hopA⟩ := I.all
  refine S_seq ?_
  repeat' walk_at "w"
  refine device_ok C' hH' hn1 (by omega) ?_
  repeat' walk_at "w"
  refine o_notin_bd C' (es := s.disk.map fun p => (p.1, .bytes p.2)) (by walk_at "at") ?_
  rw [getK_map, Option.isSome_map]
  repeat' walk_at "w"
  cases hk : (getK s.disk (plain told)).isSome
  · refine ite_t ?_
    repeat' walk_at "w"
    exact S_thr C' hH' hn1 (h2 hk) (by kernel_rfl)
  · refine ite_f ?_
    repeat' walk_at "w"
    exact h1 hk
theorem size_of_ok (C : c.Ok) (hH : c.A.handled = none) (hn : 2 ≤ c.n) (I : Inv E s σ) {told : List UInt8} (hz : told.length ≤ 1000) (ho : ∀ o, getK s.disk (plain told) = some o → o.length ≤ 1000)
    (h : Q ((getK s.disk (plain told)).elim .none fun o => .int o.length) σ) : CallR c loc σ (.ref 382) [.ref s.T, .bytes told] Q X := by
  refine call_fn C hH (by omega) (fn382 _) rfl (loc₀ := [(S "self", .ref s.T), (S "told", .bytes told)]) rfl ?_
  intro H n' A frames fr fix L hn' hH' C' F'
  have hn1 : 1 ≤ n' := by omega
  obtain ⟨hdeck, hcA, hown, hnm, hocA, hrwA, hT, htd, hdk, hopA⟩ := I.all
  refine S_seq ?_
  repeat' walk_at "w"
  refine device_ok C' hH' hn1 (by omega) ?_
  repeat' walk_at "w"
  refine o_in_bd C' (es := s.disk.map fun p => (p.1, .bytes p.2)) (by walk_at "at") ?_
  rw [getK_map, Option.isSome_map]
  repeat' walk_at "w"
  cases hk : getK s.disk (plain told) with
  | none =>
    rw [hk] at h
    refine ite_f ?_
    repeat' walk_at "w"
    exact h
  | some o =>
    rw [hk] at h
    refine ite_t ?_
    repeat' walk_at "w"
    refine i_bd (es := s.disk.map fun p => (p.1, .bytes p.2)) (v := .bytes o) (by walk_at "at") (by rw [getK_map, hk]; rfl) ?_
    repeat' walk_at "w"
    exact c_len_bytes (by have := ho o hk; omega) h
end
section
variable {c : Cx} {loc : Loc} {σ : MHeap} {α β : Type} {X : MV → MHeap → Prop} {Q : MV → MHeap → Prop} {h h' : Heap} {a d : Addr} {Kt : MF → Loc → MHeap → Prop} {B : Bool → MHeap → Prop}
variable {E : Cells} {s : St}
theorem two_of {γ : Type} {l : List γ} (h : l.length = 2) : ∃ u v, l = [u, v] := by
  match l, h with
  | [u, v], _ => exact ⟨u, v, rfl⟩
theorem call_writers (C : c.Ok) (hH : c.A.handled = none) (hn : 1 ≤ c.n) {T : Addr} {name : List UInt8}
    (h : ∀ H n' A frames fr fix L, n' + 1 = c.n → A.handled = none → let c' : Cx := ⟨c.w, H, n', A, frames, fr, fix, callEnvC (fnOf (fname (mdef 13 5)) (S "FileTable.writers") (fargs (mdef 13 5)) (fbody (mdef 13 5)) (fscope (mdef 13 5)) .none .none .none (.str (S "postcore.files") 241) none (.ref 374) .none) L 375⟩; c'.Ok → c'.Fun → cellAt c' (L + 1) (.bytes name) →
      WS c' [(S "self", .ref T)] σ (fbody (mdef 13 5)) (fun fl _ σ' => Q (retOf fl) σ') X) : CallR c loc σ (.ref 375) [.ref T, .bytes name] Q X := by
  refine c_defC C (n := c.n - 1) (by omega) (f := 375) (names := [S "self", S "name"]) (loc₀ := [(S "self", .ref T)]) (cs := [(S "name", 1, .bytes name)]) (oc := .type "function") (od := none) (osl := #[]) (name := fname (mdef 13 5)) (qual := S "FileTable.writers") (params := fargs (mdef 13 5)) (body := fbody (mdef 13 5)) (scope := fscope (mdef 13 5)) (dV := .none) (kV := .none) (doc := .none) (an := none) (ct := .none) (cdv := .ref 374) (pm := .str (S "postcore.files") 241) (by kernel_rfl) (by kernel_rfl) (fun us e => by match us, e with | [a0, a1], _ => rfl) rfl ?_ ?_ ?_ (by kernel_rfl) (by kernel_rfl) (by kernel_rfl) ?_
  · intro L; kernel_rfl
  · intro L us hu p hp
    obtain ⟨u, v, rfl⟩ : ∃ u v, us = [u, v] := two_of (by have := congrArg List.length hu; simpa using this)
    · simp only [List.map_cons, List.map_nil, List.cons.injEq, and_true] at hu
      rcases List.mem_singleton.mp hp with rfl
      exact ⟨u, by kernel_rfl, hu.1⟩
  · intro L us hu p hp
    obtain ⟨u, v, rfl⟩ : ∃ u v, us = [u, v] := two_of (by have := congrArg List.length hu; simpa using this)
    · simp only [List.map_cons, List.map_nil, List.cons.injEq, and_true] at hu
      rcases List.mem_singleton.mp hp with rfl
      exact ⟨Nat.one_pos, by kernel_rfl, v, by kernel_rfl, hu.2⟩
  · intro H n' A frames fr fix L h1 h2 c' C' F' hc
    exact h H n' A frames fr fix L (by omega) (h2.trans hH) C' F' (hc _ (.head _))
end
section
variable {c : Cx} {loc : Loc} {σ : MHeap} {α β : Type} {X : MV → MHeap → Prop} {Q : MV → MHeap → Prop} {h h' : Heap} {a d : Addr} {Kt : MF → Loc → MHeap → Prop} {B : Bool → MHeap → Prop}
variable {E : Cells} {s : St}
theorem cellAt.up {c c' : Cx} {a : Addr} {v : MV} (k : cellAt c a v) (h : ∀ p ∈ c.fix, p ∈ c'.fix) : cellAt c' a v := by
  obtain ⟨ob, u, k1, k2⟩ := k
  exact ⟨ob, u, h _ k1, k2⟩
theorem writers_ok (C : c.Ok) (hH : c.A.handled = none) (hn : 1 ≤ c.n) (I : Inv E s σ) {name : List UInt8} {p : Addr → Bool} (hp : ∀ x ∈ s.opened, ∃ r ∈ s.rows, r.f = x ∧ p x = (r.fop && (!wayR r.way) && (r.name == name))) (ho : s.opened.length ≤ 100)
    (h : ∀ x, σ x = none → Q (.ref x) (upd σ x (.list ((s.opened.filter p).map .ref)))) : CallR c loc σ (.ref 375) [.ref s.T, .bytes name] Q X := by
  refine call_writers C hH hn ?_
  intro H n' A frames fr fix L hn' hH' c' C' F' hcell
  obtain ⟨hdeck, hcA, hown, hnm, hocA, hrwA, hT, htd, hdk, hopA⟩ := I.all
  refine S_seq ?_
  repeat' walk_at "w"
  refine E_comp C' hH' (cl := [(S "name", L + 1)]) (by kernel_rfl) (by kernel_rfl) (by kernel_rfl) (by kernel_rfl) (by kernel_rfl) (fun v => by kernel_rfl) ?_
  repeat' walk_at "w"
  refine ⟨_, _, _, fun i ys σ' => σ' = σ ∧ ys = ((s.opened.take i).filter p).map .ref, It_list (xs := s.opened.map .ref) (by rw [List.length_map]; omega), ⟨rfl, rfl⟩, fun i ys σ' j => ?_, fun i ys σ' j => ?_, fun i y ys σ' hy j fr' fix' D hfx Cc => ?_, fun ys σ' j => ?_⟩
  · obtain ⟨rfl, rfl⟩ := j
    exact hopA
  · obtain ⟨rfl, rfl⟩ := j
    rw [List.length_map]
    have h1 := List.length_filter_le p (s.opened.take i)
    have h2 := List.length_take_le' i s.opened
    omega
  · obtain ⟨rfl, rfl⟩ := j
    obtain ⟨x, hx, rfl⟩ := map_at2 hy
    obtain ⟨r, hr, rfl, hpx⟩ := hp x (List.mem_of_getElem? hx)
    obtain ⟨Cl, d, cr, k, v, hc, hf, hd⟩ := I.file hr
    have e : (s.opened.take (i + 1)).filter p = (s.opened.take i).filter p ++ (if p r.f = true then [r.f] else []) := by
      rw [take_at hx, List.filter_append]
      cases hq : p r.f <;> simp [hq]
    refine I_one ?_
    rcases hc with rfl | rfl <;>
    · repeat' walk_at "w"
      cases hq : r.fop
      · refine ite_f ?_
        repeat' walk_at "w"
        rw [hq, Bool.false_and, Bool.false_and] at hpx
        refine ⟨rfl, ?_⟩
        rw [e, hpx]; simp
      · refine ite_t ?_
        repeat' walk_at "w"
        cases hq2 : wayR r.way
        · refine ite_t ?_
          repeat' walk_at "w"
          refine E_cell Cc (cellAt.up hcell hfx) ?_ (by kernel_rfl) (by kernel_rfl) (by kernel_rfl)
          repeat' walk_at "w"
          rw [hq, hq2] at hpx
          cases hq3 : (r.name == name) <;> rw [hq3] at hpx
          · refine ite_f ?_
            refine ⟨rfl, ?_⟩
            rw [e, hpx]; simp
          · refine ite_t ?_
            repeat' walk_at "w"
            refine ⟨rfl, ?_⟩
            rw [e, hpx]; simp
        · refine ite_f ?_
          repeat' walk_at "w"
          rw [hq, hq2] at hpx
          refine ⟨rfl, ?_⟩
          rw [e, hpx]; simp
  · obtain ⟨rfl, rfl⟩ := j
    rw [List.length_map, List.take_length]
    intro x hx
    exact h x hx
end
section
variable {c : Cx} {loc : Loc} {σ : MHeap} {α β : Type} {X : MV → MHeap → Prop} {Q : MV → MHeap → Prop} {h h' : Heap} {a d : Addr} {Kt : MF → Loc → MHeap → Prop} {B : Bool → MHeap → Prop}
variable {E : Cells} {s : St}
noncomputable def Row.close (r : Row) : Row := { r with fop := false, last := .none }
theorem fileO_close (dk : Addr) (r : Row) : ∃ cr k v, fileO dk r = fO r.num r.name cr (!wayR r.way) r.fop r.place r.last k v r.fat ∧ fileO dk r.close = fO r.num r.name cr (!wayR r.way) false r.place .none k v r.fat := by
  unfold fileO Row.close
  cases h : wayR r.way
  · exact ⟨_, _, _, if_neg Bool.false_ne_true, if_neg Bool.false_ne_true⟩
  · exact ⟨_, _, _, if_pos rfl, if_pos rfl⟩
theorem close_row (C : c.Ok) (hH : c.A.handled = none) (hn : 1 ≤ c.n) (I : Inv E s σ) {R1 R2 : List Row} {r : Row} (hr : s.rows = R1 ++ r :: R2)
    (h : ∀ σ', Inv E { s with rows := R1 ++ r.close :: R2 } σ' → Q .none σ') : CallR c loc σ (.ref 153) [.ref r.f] Q X := by
  have hm : r ∈ s.rows := by rw [hr]; simp
  obtain ⟨cr, k, v, e1, e2⟩ := fileO_close s.dk r
  have hf : σ r.f = some (.inst (fileC r) r.d) := I.row hm (by simp [rowCells])
  have hd : σ r.d = some (fileO s.dk r) := I.row hm (by simp [rowCells])
  have I' := I.setrowD hr (r' := r.close) rfl rfl rfl rfl rfl
  rw [e2] at I'
  rw [e1] at hd
  exact close_ok C hH hn (fileC_or r) hf hd (h _ I')
end
section
variable {c : Cx} {loc : Loc} {σ : MHeap} {α β : Type} {X : MV → MHeap → Prop} {Q : MV → MHeap → Prop} {h h' : Heap} {a d : Addr} {Kt : MF → Loc → MHeap → Prop} {B : Bool → MHeap → Prop}
variable {E : Cells} {s : St}
noncomputable def fileM (r : Row) (a b : Addr) : Addr := if wayR r.way = true then a else b
noncomputable def Row.set (r : Row) (q : Nat) : Row := { r with fat := q, place := q, last := .none }
noncomputable def Row.oct (s : St) (r : Row) : List UInt8 := if wayR r.way = true then r.was else (getK s.disk r.name).getD []
theorem set_row (C : c.Ok) (hH : c.A.handled = none) (hn : 3 ≤ c.n) (I : Inv E s σ) {R1 R2 : List Row} {r : Row} (hr : s.rows = R1 ++ r :: R2) {p : Int} (hz : (r.oct s).length ≤ 1000) (hk : wayR r.way = false → r.fop = true → (getK s.disk r.name).isSome = true)
    (h1 : r.fop = true → ∀ q : Nat, p = q → q ≤ (r.oct s).length → ∀ σ', Inv E { s with rows := R1 ++ r.set q :: R2 } σ' → Q .none σ') (h2 : r.fop = false → Thr σ X b_ioerror) (h3 : r.fop = true → p < 0 → Thr σ X b_rangecheck) (h4 : r.fop = true → (r.oct s).length < p → Thr σ X b_ioerror) : CallR c loc σ (.ref (fileM r 223 277)) [.ref r.f, .int p] Q X := by
  have hm : r ∈ s.rows := by rw [hr]; simp
  have hf : σ r.f = some (.inst (fileC r) r.d) := I.row hm (by simp [rowCells])
  have hd : σ r.d = some (fileO s.dk r) := I.row hm (by simp [rowCells])
  have hdk : σ s.dk = some (bdD s.disk) := I.fix (by simp [St.fixed])
  cases hw : wayR r.way
  · have hn' : ¬ wayR r.way = true := by rw [hw]; exact Bool.false_ne_true
    have e1 : fileC r = 280 := if_neg hn'
    have e2 : fileO s.dk r = wO r.num r.name (wayCr r.way) r.fop r.place r.last s.dk r.fat := if_neg hn'
    have e3 : fileM r 223 277 = 277 := if_neg hn'
    have e4 : r.oct s = (getK s.disk r.name).getD [] := if_neg hn'
    rw [e1] at hf
    rw [e2] at hd
    rw [e3]
    refine setD_ok C hH hn hf hd hdk (oct := r.oct s) (fun ho => ?_) hz (fun ho q e hq => ?_) h2 h3 h4
    · obtain ⟨o, ho⟩ := Option.isSome_iff_exists.mp (hk hw ho)
      rw [getK_map, e4, ho]; rfl
    · have I' := I.setrowD hr (r' := r.set q) rfl rfl rfl rfl rfl
      have e5 : fileO s.dk (r.set q) = wO r.num r.name (wayCr r.way) r.fop q .none s.dk q := if_neg hn'
      rw [e5, ho] at I'
      exact h1 ho q e hq _ I'
  · have e1 : fileC r = 226 := if_pos hw
    have e2 : fileO s.dk r = rO r.num r.name r.fop r.place r.last r.was r.fat := if_pos hw
    have e3 : fileM r 223 277 = 223 := if_pos hw
    have e4 : r.oct s = r.was := if_pos hw
    rw [e4] at h1 h4 hz
    rw [e1] at hf
    rw [e2] at hd
    rw [e3]
    refine setR_ok C hH hn hf hd hz (fun ho q e hq => ?_) h2 h3 h4
    have I' := I.setrowD hr (r' := r.set q) rfl rfl rfl rfl rfl
    have e5 : fileO s.dk (r.set q) = rO r.num r.name r.fop q .none r.was q := if_pos hw
    rw [e5, ho] at I'
    exact h1 ho q e hq _ I'
end
section
variable {c : Cx} {loc : Loc} {σ : MHeap} {α β : Type} {X : MV → MHeap → Prop} {Q : MV → MHeap → Prop} {h h' : Heap} {a d : Addr} {Kt : MF → Loc → MHeap → Prop} {B : Bool → MHeap → Prop}
variable {E : Cells} {s : St}
theorem putK_map {K' V W : Type} [DecidableEq K'] {g : V → W} (l : List (K' × V)) (x : K') (v : V) : putK (l.map fun p => (p.1, g p.2)) x (g v) = (putK l x v).map fun p => (p.1, g p.2) := by
  unfold putK
  have e : ((l.map fun p => (p.1, g p.2)).any fun p => decide (p.1 = x)) = l.any fun p => decide (p.1 = x) := by
    rw [List.any_map]; rfl
  rw [e]
  split
  · rw [List.map_map, List.map_map]
    refine List.map_congr_left fun p _ => ?_
    show (if p.1 = x then (p.1, g v) else (p.1, g p.2)) = _
    show _ = ((if p.1 = x then (p.1, v) else p).1, g (if p.1 = x then (p.1, v) else p).2)
    split <;> rfl
  · rw [List.map_append]; rfl
noncomputable def Row.wrote (r : Row) (n : Nat) : Row := { r with fat := r.fat + n, place := ((r.fat + n : Nat) : Int) }
theorem write_row (C : c.Ok) (hH : c.A.handled = none) (hn : 3 ≤ c.n) (I : Inv E s σ) {R1 R2 : List Row} {r : Row} (hr : s.rows = R1 ++ r :: R2) {o : List UInt8} (ho : o.length ≤ 1000) (hz : (r.oct s).length ≤ 1000) (hes : s.disk.length ≤ 1000) (hat : r.fop = true → r.fat ≤ (r.oct s).length) (hk : wayR r.way = false → r.fop = true → (getK s.disk r.name).isSome = true)
    (h1 : wayR r.way = false → r.fop = true → ∀ σ', Inv E { s with disk := putK s.disk r.name (splice r.fat o (r.oct s)), rows := R1 ++ r.wrote o.length :: R2 } σ' → Q .none σ') (h2 : wayR r.way = false → r.fop = false → Thr σ X b_ioerror) (h3 : wayR r.way = true → Thr σ X b_invalidaccess) : CallR c loc σ (.ref 132) [.ref r.f, .bytes o] Q X := by
  have hm : r ∈ s.rows := by rw [hr]; simp
  have hf : σ r.f = some (.inst (fileC r) r.d) := I.row hm (by simp [rowCells])
  have hd : σ r.d = some (fileO s.dk r) := I.row hm (by simp [rowCells])
  have hdk : σ s.dk = some (bdD s.disk) := I.fix (by simp [St.fixed])
  cases hw : wayR r.way
  · have hn' : ¬ wayR r.way = true := by rw [hw]; exact Bool.false_ne_true
    have e1 : fileC r = 280 := if_neg hn'
    have e2 : fileO s.dk r = wO r.num r.name (wayCr r.way) r.fop r.place r.last s.dk r.fat := if_neg hn'
    have e4 : r.oct s = (getK s.disk r.name).getD [] := if_neg hn'
    rw [e1] at hf
    rw [e2] at hd
    refine writeD_ok C hH hn hf hd hdk (oct := r.oct s) (fun ho => ?_) hz ho (by rw [List.length_map]; exact hes) hat (fun ho => ?_) (h2 hw)
    · obtain ⟨o, ho⟩ := Option.isSome_iff_exists.mp (hk hw ho)
      rw [getK_map, e4, ho]; rfl
    · have I1 := I.setdisk (putK s.disk r.name (splice r.fat o (r.oct s)))
      have I' := I1.setrowD (r' := r.wrote o.length) hr rfl rfl rfl rfl rfl
      have e5 : fileO s.dk (r.wrote o.length) = wO r.num r.name (wayCr r.way) r.fop ((r.fat + o.length : Nat) : Int) r.last s.dk (r.fat + o.length) := if_neg hn'
      rw [show ({ s with disk := putK s.disk r.name (splice r.fat o (r.oct s)) } : St).dk = s.dk from rfl, e5, ho] at I'
      rw [putK_map]
      exact h1 hw ho _ I'
  · have e1 : fileC r = 226 := if_pos hw
    have e2 : fileO s.dk r = rO r.num r.name r.fop r.place r.last r.was r.fat := if_pos hw
    rw [e1] at hf
    rw [e2] at hd
    exact writeR_ok C hH hn hf hd (h3 hw)
end
section
variable {c : Cx} {loc : Loc} {σ : MHeap} {α β : Type} {X : MV → MHeap → Prop} {Q : MV → MHeap → Prop} {h h' : Heap} {a d : Addr} {Kt : MF → Loc → MHeap → Prop} {B : Bool → MHeap → Prop}
variable {E : Cells} {s : St}
theorem pos_row (C : c.Ok) (hH : c.A.handled = none) (hn : 3 ≤ c.n) (I : Inv E s σ) {r : Row} (hm : r ∈ s.rows)
    (h1 : r.fop = true → Q (.int r.fat) σ) (h2 : r.fop = false → Thr σ X b_ioerror) : CallR c loc σ (.ref (fileM r 216 270)) [.ref r.f] Q X := by
  have hf : σ r.f = some (.inst (fileC r) r.d) := I.row hm (by simp [rowCells])
  have hd : σ r.d = some (fileO s.dk r) := I.row hm (by simp [rowCells])
  cases hw : wayR r.way
  · have hn' : ¬ wayR r.way = true := by rw [hw]; exact Bool.false_ne_true
    have e1 : fileC r = 280 := if_neg hn'
    have e2 : fileO s.dk r = wO r.num r.name (wayCr r.way) r.fop r.place r.last s.dk r.fat := if_neg hn'
    have e3 : fileM r 216 270 = 270 := if_neg hn'
    rw [e1] at hf
    rw [e2] at hd
    rw [e3]
    exact posD_ok C hH hn hf hd h1 h2
  · have e1 : fileC r = 226 := if_pos hw
    have e2 : fileO s.dk r = rO r.num r.name r.fop r.place r.last r.was r.fat := if_pos hw
    have e3 : fileM r 216 270 = 216 := if_pos hw
    rw [e1] at hf
    rw [e2] at hd
    rw [e3]
    exact posR_ok C hH hn hf hd h1 h2
end
section
variable {c : Cx} {loc : Loc} {σ : MHeap} {α β : Type} {X : MV → MHeap → Prop} {Q : MV → MHeap → Prop} {h h' : Heap} {a d : Addr} {Kt : MF → Loc → MHeap → Prop} {B : Bool → MHeap → Prop}
variable {E : Cells} {s : St}
noncomputable def sdL : MObj → List (Str × MV) | .sd l => l | _ => []
noncomputable def Row.did (r : Row) (n : Nat) (op : Bool) (place : Int) (last : MV) : Row := { r with fop := op, fat := r.fat + n, place := place, last := last }
theorem read_row (C : c.Ok) (hH : c.A.handled = none) (hn : 3 ≤ c.n) (I : Inv E s σ) {R1 R2 : List Row} {r : Row} (hr : s.rows = R1 ++ r :: R2) {many : Nat} (hm : many ≤ 100) (hz : (r.oct s).length ≤ 1000) (hk : wayR r.way = false → r.fop = true → (getK s.disk r.name).isSome = true) (hcr : wayR r.way = false → wayCr r.way = true)
    (h : ∀ (t : List UInt8) (op : Bool) (place : Int) (last : MV) σ', t = (if r.fop = true then ((r.oct s).drop r.fat).take many else []) → op = (if t.length = many then r.fop else r.fop && !wayR r.way) → Inv E { s with rows := R1 ++ r.did t.length op place last :: R2 } σ' → Q (.bytes t) σ') : CallR c loc σ (.ref 118) [.ref r.f, .int many] Q X := by
  have hmm : r ∈ s.rows := by rw [hr]; simp
  have hf : σ r.f = some (.inst (fileC r) r.d) := I.row hmm (by simp [rowCells])
  have hd : σ r.d = some (fileO s.dk r) := I.row hmm (by simp [rowCells])
  have hdk : σ s.dk = some (bdD s.disk) := I.fix (by simp [St.fixed])
  cases hw : wayR r.way
  · have hn' : ¬ wayR r.way = true := by rw [hw]; exact Bool.false_ne_true
    have e1 : fileC r = 280 := if_neg hn'
    have e2 : fileO s.dk r = wO r.num r.name (wayCr r.way) r.fop r.place r.last s.dk r.fat := if_neg hn'
    have e4 : r.oct s = (getK s.disk r.name).getD [] := if_neg hn'
    rw [e1] at hf
    rw [e2, hcr hw] at hd
    have hne : s.dk ≠ r.d := ne_of hdk hd nofun
    have hfd : r.f ≠ r.d := ne_of hf hd nofun
    refine read_gen C hH hn (Cl := 280) (oct := r.oct s) (isD := true) (fs := fun op place last a => sdL (wO r.num r.name true op place last s.dk a)) hf hz hd hm (by kernel_rfl) (fun _ _ _ _ => by kernel_rfl) (fun c' C2 ew H2 n2 loc σ' Q op place last a hs hd' hop q1 q2 => ?_) (fun t op place last e5 e6 => ?_)
    · refine nextD_ok C2 H2 n2 (hs _ _ hfd hf) hd' (hs _ _ hne hdk) (fun ho => ?_) hz (fun ho hlt => q1 ho hlt) (fun hge => ?_)
      · obtain ⟨o, ho⟩ := Option.isSome_iff_exists.mp (hk hw (hop ho))
        rw [getK_map, e4, ho]; rfl
      · have := q2 hge
        rwa [Bool.and_true] at this
    · have I' := I.setrowD hr (r' := r.did t.length op place last) rfl rfl rfl rfl rfl
      have e7 : fileO s.dk (r.did t.length op place last) = wO r.num r.name (wayCr r.way) op place last s.dk (r.fat + t.length) := if_neg hn'
      rw [e7, hcr hw] at I'
      exact h t op place last _ e5 (by rw [hw]; exact e6) I'
  · have e1 : fileC r = 226 := if_pos hw
    have e2 : fileO s.dk r = rO r.num r.name r.fop r.place r.last r.was r.fat := if_pos hw
    have e4 : r.oct s = r.was := if_pos hw
    rw [e4] at hz
    rw [e1] at hf
    rw [e2] at hd
    have hfd : r.f ≠ r.d := ne_of hf hd nofun
    refine read_gen C hH hn (Cl := 226) (oct := r.was) (isD := false) (fs := fun op place last a => sdL (rO r.num r.name op place last r.was a)) hf hz hd hm (by kernel_rfl) (fun _ _ _ _ => by kernel_rfl) (fun c' C2 ew H2 n2 loc σ' Q op place last a hs hd' hop q1 q2 => ?_) (fun t op place last e5 e6 => ?_)
    · refine nextR_ok C2 H2 n2 (hs _ _ hfd hf) hd' hz (fun ho hlt => q1 ho hlt) (fun ho hge => ?_) (fun ho => ?_)
      · have := q2 fun _ => hge
        rwa [Bool.and_false] at this
      · have := q2 fun h => by rw [ho] at h; cases h
        rwa [Bool.and_false] at this
    · have I' := I.setrowD hr (r' := r.did t.length op place last) rfl rfl rfl rfl rfl
      have e7 : fileO s.dk (r.did t.length op place last) = rO r.num r.name op place last r.was (r.fat + t.length) := if_pos hw
      rw [e7] at I'
      exact h t op place last _ (by rw [e4]; exact e5) (by rw [hw]; exact e6) I'
end
section
variable {c : Cx} {loc : Loc} {σ : MHeap} {α β : Type} {X : MV → MHeap → Prop} {Q : MV → MHeap → Prop} {h h' : Heap} {a d : Addr} {Kt : MF → Loc → MHeap → Prop} {B : Bool → MHeap → Prop}
noncomputable def updF (g : Row → Row) (x : Addr) (rows : List Row) : List Row := rows.map fun r => if r.f = x then g r else r
theorem updF_split {g : Row → Row} {R1 R2 : List Row} {r : Row} (nd : ((R1 ++ r :: R2).map (·.f)).Nodup) : updF g r.f (R1 ++ r :: R2) = R1 ++ g r :: R2 := by
  have nd' : (((r :: (R1 ++ R2)).map (·.f))).Nodup := ((List.perm_middle (a := r) (l₁ := R1) (l₂ := R2)).map (·.f)).nodup_iff.mp nd
  rw [List.map_cons, List.nodup_cons] at nd'
  have hne : ∀ q ∈ R1 ++ R2, ¬ q.f = r.f := fun q hq e => nd'.1 (List.mem_map.mpr ⟨q, hq, e⟩)
  unfold updF
  rw [List.map_append, List.map_cons, if_pos rfl]
  have m : ∀ L : List Row, (∀ q ∈ L, ¬ q.f = r.f) → (L.map fun q => if q.f = r.f then g q else q) = L := fun L h => by
    conv => rhs; rw [← List.map_id L]
    exact List.map_congr_left fun q hq => if_neg (h q hq)
  rw [m R1 fun q hq => hne q (List.mem_append_left _ hq), m R2 fun q hq => hne q (List.mem_append_right _ hq)]
noncomputable def foldF (g : Row → Row) (ws : List Addr) (rows : List Row) : List Row := ws.foldl (fun R x => updF g x R) rows
theorem foldF_map {g : Row → Row} (hf : ∀ r, (g r).f = r.f) (hg : ∀ r, g (g r) = g r) : ∀ (ws : List Addr) (rows : List Row), foldF g ws rows = rows.map fun r => if r.f ∈ ws then g r else r
  | [], rows => by simp [foldF]
  | x :: ws, rows => by
    show foldF g ws (updF g x rows) = _
    rw [foldF_map hf hg ws, updF, List.map_map]
    refine List.map_congr_left fun r _ => ?_
    show (if (if r.f = x then g r else r).f ∈ ws then g (if r.f = x then g r else r) else (if r.f = x then g r else r)) = _
    by_cases h : r.f = x
    · have h3 : r.f ∈ x :: ws := by rw [h]; exact List.mem_cons_self
      rw [if_pos h, if_pos h3, hg]
      split <;> rfl
    · rw [if_neg h]
      by_cases h2 : r.f ∈ ws
      · rw [if_pos h2, if_pos (List.mem_cons_of_mem _ h2)]
      · rw [if_neg h2, if_neg fun h3 => (List.mem_cons.mp h3).elim h h2]
theorem updF_fs {g : Row → Row} (hf : ∀ r, (g r).f = r.f) (x : Addr) (rows : List Row) : (updF g x rows).map (·.f) = rows.map (·.f) := by
  unfold updF
  rw [List.map_map]
  refine List.map_congr_left fun r _ => ?_
  show (if r.f = x then g r else r).f = r.f
  split
  · exact hf r
  · rfl
theorem foldF_fs {g : Row → Row} (hf : ∀ r, (g r).f = r.f) : ∀ (ws : List Addr) (rows : List Row), (foldF g ws rows).map (·.f) = rows.map (·.f)
  | [], rows => rfl
  | x :: ws, rows => (foldF_fs hf ws (updF g x rows)).trans (updF_fs hf x rows)
theorem foldF_snoc {g : Row → Row} (ws : List Addr) (x : Addr) (rows : List Row) : foldF g (ws ++ [x]) rows = updF g x (foldF g ws rows) := by
  unfold foldF
  rw [List.foldl_append]; rfl
end
section
variable {c : Cx} {loc : Loc} {σ : MHeap} {α β : Type} {X : MV → MHeap → Prop} {Q : MV → MHeap → Prop} {h h' : Heap} {a d : Addr} {Kt : MF → Loc → MHeap → Prop} {B : Bool → MHeap → Prop}
variable {E : Cells} {s : St}
theorem Inv.fs_nodup (I : Inv E s σ) : (s.rows.map (·.f)).Nodup := by
  have := I.rows_nodup
  refine (List.Sublist.nodup (l₂ := s.rows.flatMap fun r => [r.a, r.f, r.d]) ?_ this)
  induction s.rows with
  | nil => exact .slnil
  | cons r R ih => exact .cons _ (.cons_cons _ (.cons _ ih))
theorem split_f {rows : List Row} {x : Addr} (h : x ∈ rows.map (·.f)) : ∃ R1 r R2, rows = R1 ++ r :: R2 ∧ r.f = x := by
  obtain ⟨r, hr, e⟩ := List.mem_map.mp h
  obtain ⟨R1, R2, e2⟩ := List.append_of_mem hr
  exact ⟨R1, r, R2, e2, e⟩
theorem close_f (C : c.Ok) (hH : c.A.handled = none) (hn : 1 ≤ c.n) (I : Inv E s σ) {x : Addr} (hx : x ∈ s.rows.map (·.f))
    (h : ∀ σ', Inv E { s with rows := updF Row.close x s.rows } σ' → Q .none σ') : CallR c loc σ (.ref 153) [.ref x] Q X := by
  obtain ⟨R1, r, R2, e, rfl⟩ := split_f hx
  have nd := I.fs_nodup
  refine close_row C hH hn I e fun σ' I' => h σ' ?_
  rw [e] at nd ⊢
  rw [updF_split nd]
  exact I'
end
section
variable {c : Cx} {loc : Loc} {σ : MHeap} {α β : Type} {X : MV → MHeap → Prop} {Q : MV → MHeap → Prop} {h h' : Heap} {a d : Addr} {Kt : MF → Loc → MHeap → Prop} {B : Bool → MHeap → Prop}
theorem Sim.retype {o : MObj} {ob : Obj} (S : Sim c loc σ h) (q : σ a = some (.raw ob)) (r : Rep c.w o ob) : Sim c loc (upd σ a o) h := by
  refine ⟨S.keep, S.ns, S.outs, S.fx, fun b o' q' => ?_⟩
  by_cases hb : b = a
  · subst hb
    rw [upd_self] at q'; cases q'
    obtain ⟨x, y, z, z', ob', u, v⟩ := S.hr b _ q
    have e : ob' = ob := v
    subst e
    exact ⟨x, y, z, z', _, u, r⟩
  · rw [upd_ne hb] at q'; exact S.hr b o' q'
theorem WT.open {t : Sem α} {Q : α → MHeap → Prop} {o : MObj} (q : σ a = some o) (h : ∀ ob, Rep c.w o ob → WT c loc (upd σ a (.raw ob)) t Q X) : WT c loc σ t Q X := fun s hs => by
  obtain ⟨x, y, z, z', ob, u, v⟩ := hs.hr a o q
  refine h ob v s ⟨hs.keep, hs.ns, hs.outs, hs.fx, fun b o' q' => ?_⟩
  by_cases hb : b = a
  · subst hb; rw [upd_self] at q'; cases q'; exact ⟨x, y, z, z', ob, u, rfl⟩
  · rw [upd_ne hb] at q'; exact hs.hr b o' q'
theorem WT.shut {t : Sem α} {Q : α → MHeap → Prop} (h : WT c loc σ t (fun v σ' => ∃ a ob o, σ' a = some (.raw ob) ∧ Rep c.w o ob ∧ Q v (upd σ' a o)) X) : WT c loc σ t Q X := fun s hs =>
  wpAny_mono (h s hs) (fun _ _ ⟨h', k, σ', e, S, a, ob, o, q1, q2, q3⟩ => ⟨h', k, _, e, S.retype q1 q2, q3⟩) fun _ _ z => z
theorem is_bytes {w : World} {x : List UInt8} {v : Value} (h : (bytesKind pw w).is x v = true) : er v = .bytes x := by
  cases v <;> simp [bytesKind, isBytes] at h
  subst h
  simp [er]
theorem It_bd (C : c.Ok) {es : List (List UInt8 × MV)} {ob : Obj} (R : Rep c.w (.bd es) ob) : ∃ st, ItR c (.ref a) (es.map fun p => .bytes p.1) st (fun σ => σ a = some (.raw ob)) := by
  obtain ⟨kvs, ⟨ens, ep, hx⟩, he⟩ := R
  have hD : ∀ {loc : Loc} {σ : MHeap} {h : Heap}, Sim c loc σ h → σ a = some (.raw ob) → h.DictAt (bytesKind pw c.w) a kvs ep := fun S q => by
    obtain ⟨_, _, _, _, ob', u, v⟩ := S.hr _ _ q
    have e : ob' = ob := v
    subst e
    exact ⟨_, ens, u, hx⟩
  refine ⟨fun i o => o.cls = .type "dict_keyiterator" ∧ o.data = .fields #[.ref a, .int i 0, .int kvs.length 0, .int ep 0], ?_⟩
  constructor
  case start =>
    intro loc σ s u Q E hu q S k
    rw [er_ref hu]
    exact wpAny_pyIter_dict (S.notSys C q) (hD S q) (k _ rfl ⟨rfl, rfl⟩)
  case item =>
    intro loc σ s I ob' i x Q E hx' q S g st k
    rw [← he, List.map_map] at hx'
    obtain ⟨p, hp, rfl⟩ := map_at2 hx'
    refine wpAny_pyNext_dict_item ⟨_, g, st.1, st.2⟩ (hD S q) (k := p.1) (v := p.2) hp fun key h' hkey ⟨o', g1, g2, g3⟩ hs => ?_
    exact k _ h' s.toks o' (is_bytes hkey) hs g1 ⟨g2, by rw [g3]⟩
  case self =>
    intro s I ob' i Q E g st k
    exact wpAny_pyIter_keyiter ⟨_, g, st.1, st.2⟩ k
  case fin =>
    intro loc σ s I ob' Q E H q S g st k
    have hl : (es.map fun p => MV.bytes p.1).length = kvs.length := by rw [← he]; simp
    rw [hl] at st
    exact wpAny_pyNext_dict_end H ⟨_, g, st.1, st.2⟩ (hD S q) (by simp) fun h' he' => k h' s.toks he'
theorem i_bdR {es : List (List UInt8 × MV)} {x : List UInt8} {v : MV} {ob : Obj} (q : σ d = some (.raw ob)) (R : Rep c.w (.bd es) ob) (k : getK es x = some v) (h : Q v σ) : ItemR c loc σ (.ref d) (.bytes x) Q X := fun u y hu hy s hs => by
  obtain ⟨kvs, hd, he⟩ := (hs.retype q R).bdict (upd_self _ _ _)
  subst he
  rw [er_ref hu]
  obtain ⟨t, rfl⟩ := er_bytes hy
  obtain ⟨u, k1, k2⟩ := valueAt_of k
  exact ⟨⟨_, _, hd.mapOf.typeIs, slot_dict_getitem.lookup⟩, wpAny_getItem_of (isB _ _) hd.mapOf k1 (.tok hs (by rw [k2]; exact h))⟩
end
section
variable {c : Cx} {loc : Loc} {σ : MHeap} {α β : Type} {X : MV → MHeap → Prop} {Q : MV → MHeap → Prop} {h h' : Heap} {a d : Addr} {Kt : MF → Loc → MHeap → Prop} {B : Bool → MHeap → Prop}
/- the plain law: no program in sight -/
theorem nodup_inj {γ δ : Type} {f : γ → δ} : ∀ {l : List γ}, (l.map f).Nodup → ∀ {x y : γ}, x ∈ l → y ∈ l → f x = f y → x = y
  | [], _, _, _, hx, _, _ => absurd hx List.not_mem_nil
  | z :: l, nd, x, y, hx, hy, e => by
    rw [List.map_cons, List.nodup_cons] at nd
    rcases List.mem_cons.mp hx with hx | hx
    · rcases List.mem_cons.mp hy with hy | hy
      · rw [hx, hy]
      · rw [hx] at e
        exact absurd (e ▸ List.mem_map_of_mem (f := f) hy) nd.1
    · rcases List.mem_cons.mp hy with hy | hy
      · rw [hy] at e
        exact absurd (e ▸ List.mem_map_of_mem (f := f) hx) nd.1
      · exact nodup_inj nd.2 hx hy e
theorem any_f {rows : List Row} {g : Row → Bool} (nd : (rows.map (·.f)).Nodup) {r : Row} (h : r ∈ rows) : (rows.any fun q => decide (q.f = r.f) && g q) = g r := by
  cases hg : g r
  · rw [List.any_eq_false]
    intro q hq e
    simp only [Bool.and_eq_true, decide_eq_true_eq] at e
    have := nodup_inj nd hq h e.1
    rw [this, hg] at e
    cases e.2
  · rw [List.any_eq_true]
    exact ⟨r, h, by simp [hg]⟩
noncomputable def St.isOp (s : St) (x : Addr) : Bool := s.rows.any fun r => decide (r.f = x) && r.fop
noncomputable def St.isW (s : St) (n : List UInt8) (x : Addr) : Bool := s.rows.any fun r => decide (r.f = x) && (r.fop && (!wayR r.way) && (r.name == n))
noncomputable def ways6 : List (List UInt8) := [[114], [119], [97], [114, 43], [119, 43], [97, 43]]
structure RowOk (t : Nat) (octets : List (List UInt8)) (names : List (List UInt8 × Nat)) (r : Row) : Prop where
  way : r.way ∈ ways6
  fop : r.fop = r.op
  at_ : r.op = true → r.fat = r.at_
  was : r.was.length ≤ 4 + 5 * t
  of : r.of < octets.length
  rd : wayR r.way = true → r.op = true → r.at_ ≤ r.was.length
  wr : wayR r.way = false → r.op = true → (r.name, r.of) ∈ names ∧ r.at_ ≤ (octets.getD r.of []).length
structure Good (t : Nat) (s : St) : Prop where
  tle : t ≤ 15
  cs : s.cs.length ≤ 63
  disk : s.disk = s.names.map fun p => (p.1, s.octets.getD p.2 [])
  nk : (s.names.map (·.1)).Nodup
  nv : (s.names.map (·.2)).Nodup
  nlt : ∀ p ∈ s.names, p.2 < s.octets.length
  oc : ∀ o ∈ s.octets, o.length ≤ 4 + 5 * t
  ocl : s.octets.length ≤ 2 + t
  nl : s.names.length ≤ 2 + t
  rows : ∀ r ∈ s.rows, RowOk t s.octets s.names r
  rl : s.rows.length ≤ t
  opn : s.opened.Nodup
  ops : ∀ x ∈ s.opened, x ∈ s.rows.map (·.f)
  opa : ∀ r ∈ s.rows, r.op = true → r.f ∈ s.opened
  opl : s.opened.length ≤ t
section
variable {t : Nat} {s : St}
theorem getD_le {t : Nat} {l : List (List UInt8)} (h : ∀ o ∈ l, o.length ≤ t) (k : Nat) : (l.getD k []).length ≤ t := by
  rw [List.getD_eq_getElem?_getD]
  cases e : l[k]? with
  | none => exact Nat.zero_le _
  | some o => exact h o (List.mem_of_getElem? e)
theorem Good.look (G : Good t s) (n : List UInt8) : getK s.disk n = (getK s.names n).map fun k => s.octets.getD k [] := by
  rw [G.disk]
  exact getK_map (g := fun k => s.octets.getD k []) s.names n
theorem getK_spec {K' V : Type} [DecidableEq K'] {l : List (K' × V)} {n : K'} {v : V} (h : getK l n = some v) : (n, v) ∈ l := by
  unfold getK at h
  obtain ⟨p, hp, rfl⟩ := Option.map_eq_some_iff.mp h
  have h1 := List.mem_of_find?_eq_some hp
  have h2 := List.find?_some hp
  have h3 : p.1 = n := of_decide_eq_true h2
  rw [← h3]; exact h1
theorem Good.size (G : Good t s) (n : List UInt8) {o : List UInt8} (h : getK s.disk n = some o) : o.length ≤ 79 := by
  rw [G.look] at h
  obtain ⟨k, _, rfl⟩ := Option.map_eq_some_iff.mp h
  have := getD_le G.oc k
  have := G.tle
  omega
theorem Good.dl (G : Good t s) : s.disk.length ≤ 17 := by
  rw [G.disk, List.length_map]
  have := G.nl
  have := G.tle
  omega
/- what the law has under a row -/
noncomputable def Row.law (s : St) (r : Row) : List UInt8 := if wayR r.way = true then r.was else s.octets.getD r.of []
theorem Good.oct (G : Good t s) {r : Row} (hr : r ∈ s.rows) (ho : r.op = true) : r.oct s = r.law s := by
  unfold Row.oct Row.law
  cases h : wayR r.way
  · rw [if_neg Bool.false_ne_true, if_neg Bool.false_ne_true, G.look, getK_mem G.nk ((G.rows r hr).wr h ho).1]
    rfl
  · rfl
theorem Good.octle (G : Good t s) {r : Row} (hr : r ∈ s.rows) : (r.oct s).length ≤ 79 := by
  unfold Row.oct
  have := G.tle
  split
  · have := (G.rows r hr).was
    omega
  · cases h : getK s.disk r.name with
    | none => exact Nat.zero_le _
    | some o => exact G.size _ h
theorem Good.lawle (G : Good t s) {r : Row} (hr : r ∈ s.rows) : (r.law s).length ≤ 79 := by
  unfold Row.law
  have := G.tle
  split
  · have := (G.rows r hr).was
    omega
  · have := getD_le G.oc r.of
    omega
theorem Good.at_le (G : Good t s) {r : Row} (hr : r ∈ s.rows) (ho : r.op = true) : r.at_ ≤ (r.law s).length := by
  unfold Row.law
  cases h : wayR r.way
  · rw [if_neg Bool.false_ne_true]; exact ((G.rows r hr).wr h ho).2
  · rw [if_pos rfl]; exact (G.rows r hr).rd h ho
theorem Good.isS (G : Good t s) {r : Row} (hr : r ∈ s.rows) (hw : wayR r.way = false) (hf : r.fop = true) : (getK s.disk r.name).isSome = true := by
  have R := G.rows r hr
  rw [G.look, getK_mem G.nk (R.wr hw (R.fop ▸ hf)).1]
  rfl
theorem Good.isOp (G : Good t s) (nd : (s.rows.map (·.f)).Nodup) : ∀ x ∈ s.opened, ∃ r ∈ s.rows, r.f = x ∧ r.fop = s.isOp x := fun x hx => by
  obtain ⟨r, hr, rfl⟩ := List.mem_map.mp (G.ops x hx)
  exact ⟨r, hr, rfl, (any_f nd hr).symm⟩
theorem Good.isW (G : Good t s) (nd : (s.rows.map (·.f)).Nodup) (n : List UInt8) : ∀ x ∈ s.opened, ∃ r ∈ s.rows, r.f = x ∧ s.isW n x = (r.fop && (!wayR r.way) && (r.name == n)) := fun x hx => by
  obtain ⟨r, hr, rfl⟩ := List.mem_map.mp (G.ops x hx)
  exact ⟨r, hr, rfl, any_f (g := fun r => r.fop && (!wayR r.way) && (r.name == n)) nd hr⟩
theorem len_le_of {γ : Type} : ∀ {l l' : List γ}, l.Nodup → (∀ x ∈ l, x ∈ l') → l.length ≤ l'.length
  | [], _, _, _ => Nat.zero_le _
  | z :: l, l', h, e => by
    rw [List.nodup_cons] at h
    obtain ⟨A, B, rfl⟩ := List.append_of_mem (e z List.mem_cons_self)
    have := len_le_of (l' := A ++ B) h.2 fun x hx => by
      rcases List.mem_append.mp (e x (List.mem_cons_of_mem _ hx)) with hA | hB
      · exact List.mem_append_left _ hA
      · rcases List.mem_cons.mp hB with rfl | hB
        · exact absurd hx h.1
        · exact List.mem_append_right _ hB
    rw [List.length_append] at this ⊢
    rw [List.length_cons, List.length_cons]
    omega
theorem len_of_same {γ : Type} {l l' : List γ} (h : l.Nodup) (h' : l'.Nodup) (e : ∀ x, x ∈ l ↔ x ∈ l') : l.length = l'.length :=
  Nat.le_antisymm (len_le_of h fun x hx => (e x).mp hx) (len_le_of h' fun x hx => (e x).mpr hx)
theorem Good.count (G : Good t s) (nd : (s.rows.map (·.f)).Nodup) : (s.opened.filter s.isOp).length = (s.rows.filter (·.op)).length := by
  rw [show (s.rows.filter (·.op)).length = ((s.rows.filter (·.op)).map (·.f)).length by rw [List.length_map]]
  refine len_of_same (List.filter_sublist.nodup G.opn) ((List.Sublist.map _ List.filter_sublist).nodup nd) fun x => ?_
  rw [List.mem_filter, List.mem_map]
  constructor
  · rintro ⟨hx, ho⟩
    obtain ⟨r, hr, rfl, e⟩ := G.isOp nd x hx
    exact ⟨r, List.mem_filter.mpr ⟨hr, by rw [← (G.rows r hr).fop, e]; exact ho⟩, rfl⟩
  · rintro ⟨r, hr, rfl⟩
    obtain ⟨hr, ho⟩ := List.mem_filter.mp hr
    refine ⟨G.opa r hr ho, ?_⟩
    show (s.rows.any fun q => decide (q.f = r.f) && q.fop) = true
    rw [any_f (g := fun q => q.fop) nd hr, (G.rows r hr).fop]; exact ho
end
end
section
variable {c : Cx} {loc : Loc} {σ : MHeap} {α β : Type} {X : MV → MHeap → Prop} {Q : MV → MHeap → Prop} {h h' : Heap} {a d : Addr} {Kt : MF → Loc → MHeap → Prop} {B : Bool → MHeap → Prop}
/- tables of names -/
section
variable {K' V : Type} [DecidableEq K'] {l : List (K' × V)} {n : K'} {v : V}
theorem getK_none (h : getK l n = none) : n ∉ l.map (·.1) := fun hn => by
  obtain ⟨p, hp, rfl⟩ := List.mem_map.mp hn
  unfold getK at h
  rw [Option.map_eq_none_iff, List.find?_eq_none] at h
  exact h p hp (decide_eq_true rfl)
theorem any_key : (l.any fun p => decide (p.1 = n)) = true ↔ n ∈ l.map (·.1) := by
  rw [List.any_eq_true, List.mem_map]
  exact ⟨fun ⟨p, hp, e⟩ => ⟨p, hp, of_decide_eq_true e⟩, fun ⟨p, hp, e⟩ => ⟨p, hp, decide_eq_true e⟩⟩
theorem getK_some (h : n ∈ l.map (·.1)) : ∃ v, getK l n = some v := by
  cases e : getK l n with
  | none => exact absurd h (getK_none e)
  | some v => exact ⟨v, rfl⟩
theorem putK_new (h : n ∉ l.map (·.1)) : putK l n v = l ++ [(n, v)] := by
  unfold putK
  rw [if_neg fun e => h (any_key.mp e)]
theorem putK_old (h : n ∈ l.map (·.1)) : putK l n v = l.map fun p => if p.1 = n then (p.1, v) else p := by
  unfold putK
  rw [if_pos (any_key.mpr h)]
theorem mem_putK {p : K' × V} : p ∈ putK l n v ↔ p = (n, v) ∨ (p ∈ l ∧ p.1 ≠ n) := by
  by_cases h : n ∈ l.map (·.1)
  · rw [putK_old h, List.mem_map]
    constructor
    · rintro ⟨q, hq, rfl⟩
      by_cases e : q.1 = n
      · rw [if_pos e, e]; exact .inl rfl
      · rw [if_neg e]; exact .inr ⟨hq, e⟩
    · rintro (rfl | ⟨hp, e⟩)
      · obtain ⟨q, hq, e⟩ := List.mem_map.mp h
        exact ⟨q, hq, by rw [if_pos e, e]⟩
      · exact ⟨p, hp, by rw [if_neg e]⟩
  · rw [putK_new h, List.mem_append, List.mem_singleton]
    constructor
    · rintro (hp | rfl)
      · exact .inr ⟨hp, fun e => h (e ▸ List.mem_map_of_mem (f := (·.1)) hp)⟩
      · exact .inl rfl
    · rintro (rfl | ⟨hp, _⟩)
      · exact .inr rfl
      · exact .inl hp
theorem putK_keys_old (h : n ∈ l.map (·.1)) : (putK l n v).map (·.1) = l.map (·.1) := by
  rw [putK_old h, List.map_map]
  refine List.map_congr_left fun p _ => ?_
  show (if p.1 = n then (p.1, v) else p).1 = p.1
  split <;> rfl
theorem putK_nk (nd : (l.map (·.1)).Nodup) : ((putK l n v).map (·.1)).Nodup := by
  by_cases h : n ∈ l.map (·.1)
  · rw [putK_keys_old h]; exact nd
  · rw [putK_new h, List.map_append]
    refine List.nodup_append.mpr ⟨nd, List.nodup_cons.mpr ⟨List.not_mem_nil, List.nodup_nil⟩, fun x hx y hy e => ?_⟩
    rw [List.map_cons, List.map_nil, List.mem_singleton] at hy
    rw [e, hy] at hx
    exact h hx
theorem mem_dropK {p : K' × V} : p ∈ dropK l n ↔ p ∈ l ∧ p.1 ≠ n := by
  unfold dropK
  rw [List.mem_filter]
  simp
theorem dropK_nk (nd : (l.map (·.1)).Nodup) : ((dropK l n).map (·.1)).Nodup := (List.filter_sublist.map _).nodup nd
theorem dropK_nv {l : List (K' × Nat)} (nd : (l.map (·.2)).Nodup) : ((dropK l n).map (·.2)).Nodup := (List.filter_sublist.map _).nodup nd
theorem dropK_map {W : Type} {g : V → W} : dropK (l.map fun p => (p.1, g p.2)) n = (dropK l n).map fun p => (p.1, g p.2) := by
  unfold dropK
  rw [List.filter_map]
  rfl
theorem dropK_no : n ∉ (dropK l n).map (·.1) := fun h => by
  obtain ⟨p, hp, e⟩ := List.mem_map.mp h
  exact (mem_dropK.mp hp).2 e
theorem putK_nv {l : List (K' × Nat)} {v : Nat} (nk : (l.map (·.1)).Nodup) (nd : (l.map (·.2)).Nodup) (hv : v ∉ l.map (·.2)) : ((putK l n v).map (·.2)).Nodup := by
  induction l with
  | nil => exact List.nodup_cons.mpr ⟨List.not_mem_nil, List.nodup_nil⟩
  | cons p l ih =>
    rw [List.map_cons, List.nodup_cons] at nd nk
    have hv' : v ≠ p.2 ∧ v ∉ l.map (·.2) := ⟨fun e => hv (by rw [e]; exact .head _), fun e => hv (.tail _ e)⟩
    by_cases h : p.1 = n
    · have hn : n ∉ l.map (·.1) := h ▸ nk.1
      have e : putK (p :: l) n v = (n, v) :: l := by
        rw [putK_old (by rw [List.map_cons, h]; exact .head _), List.map_cons, if_pos h, h]
        congr 1
        conv => rhs; rw [← List.map_id l]
        refine List.map_congr_left fun q hq => if_neg fun e => hn ?_
        rw [← e]
        exact List.mem_map_of_mem (f := (·.1)) hq
      rw [e, List.map_cons, List.nodup_cons]
      exact ⟨hv'.2, nd.2⟩
    · have e : putK (p :: l) n v = p :: putK l n v := by
        by_cases h2 : n ∈ l.map (·.1)
        · rw [putK_old (by rw [List.map_cons]; exact .tail _ h2), putK_old h2, List.map_cons, if_neg h]
        · rw [putK_new (by rw [List.map_cons, List.mem_cons]; exact fun e => e.elim (fun e => h e.symm) h2), putK_new h2]; rfl
      rw [e, List.map_cons, List.nodup_cons]
      refine ⟨fun hm => ?_, ih nk.2 nd.2 hv'.2⟩
      obtain ⟨q, hq, e⟩ := List.mem_map.mp hm
      rcases mem_putK.mp hq with rfl | ⟨hq, _⟩
      · exact hv'.1 e
      · exact nd.1 (e ▸ List.mem_map_of_mem (f := (·.2)) hq)
theorem putK_len : (putK l n v).length ≤ l.length + 1 := by
  unfold putK
  split <;> simp
theorem putK_len_old (h : n ∈ l.map (·.1)) : (putK l n v).length = l.length := by
  rw [putK_old h, List.length_map]
theorem dropK_len : (dropK l n).length ≤ l.length := List.length_filter_le _ _
theorem dropK_len_lt (h : n ∈ l.map (·.1)) : (dropK l n).length + 1 ≤ l.length := by
  unfold dropK
  induction l with
  | nil => cases h
  | cons p l ih =>
    rw [List.map_cons, List.mem_cons] at h
    by_cases e : p.1 = n
    · rw [List.filter_cons_of_neg (by simp [e])]
      exact Nat.succ_le_succ (List.length_filter_le _ _)
    · rw [List.filter_cons_of_pos (by simp [e])]
      exact Nat.succ_le_succ (ih (h.resolve_left fun z => e z.symm))
end
theorem getD_set {oc : List (List UInt8)} {k j : Nat} {v : List UInt8} (hk : k < oc.length) : (oc.set k v).getD j [] = if j = k then v else oc.getD j [] := by
  rw [List.getD_eq_getElem?_getD, List.getD_eq_getElem?_getD, List.getElem?_set]
  by_cases e : k = j
  · subst e
    rw [if_pos rfl, if_pos rfl, if_pos hk]
    rfl
  · rw [if_neg e, if_neg fun z => e z.symm]
theorem disk_set {names : List (List UInt8 × Nat)} {oc : List (List UInt8)} {n : List UInt8} {k : Nat} {v : List UInt8} (nk : (names.map (·.1)).Nodup) (nv : (names.map (·.2)).Nodup) (h : (n, k) ∈ names) (hk : k < oc.length) :
    (names.map fun p => (p.1, (oc.set k v).getD p.2 [])) = putK (names.map fun p => (p.1, oc.getD p.2 [])) n v := by
  rw [putK_old (by rw [List.map_map]; exact List.mem_map.mpr ⟨(n, k), h, rfl⟩), List.map_map]
  refine List.map_congr_left fun p hp => ?_
  show _ = if p.1 = n then (p.1, v) else (p.1, oc.getD p.2 [])
  rw [getD_set hk]
  by_cases e : p.1 = n
  · have : p = (n, k) := nodup_inj nk hp h e
    rw [if_pos e, if_pos (by rw [this])]
  · rw [if_neg e, if_neg fun z => e (by rw [show p = (n, k) from nodup_inj nv hp h z])]
theorem splice_len {k : Nat} {o w : List UInt8} (h : k ≤ w.length) : (splice k o w).length = max w.length (k + o.length) := by
  unfold splice
  rw [List.length_append, List.length_append, List.length_take, List.length_drop]
  omega
end
section
variable {c : Cx} {loc : Loc} {σ : MHeap} {α β : Type} {X : MV → MHeap → Prop} {Q : MV → MHeap → Prop} {h h' : Heap} {a d : Addr} {Kt : MF → Loc → MHeap → Prop} {B : Bool → MHeap → Prop}
variable {E : Cells} {s : St}
theorem S_join {st : Stmt} {r : List Stmt} {K1 : Loc → MHeap → Prop} (h : W1 c loc σ st (fun f l σ' => f = .next ∧ K1 l σ') X) (k : ∀ l σ', K1 l σ' → WS c l σ' r Kt X) : WS c loc σ (st :: r) Kt X :=
  S_cons (WL.mono h (fun f l σ' q => by obtain ⟨e, q⟩ := q; rw [e]; exact k l σ' q) fun _ _ x => x)
theorem Inv.swap {p q : Addr × MObj} (I : Inv (p :: q :: E) s σ) : Inv (q :: p :: E) s σ := Fits.perm I (List.Perm.append_left _ (List.Perm.swap _ _ _))
noncomputable def ways7 : List (List UInt8) := [[114], [119], [97], [114, 43], [119, 43], [97, 43], [113]]
noncomputable abbrev tupB (l : List (Array UInt8 × Tok)) : Obj := ob (.type "tuple") (.seq (l.map fun p => Value.bytes p.1 p.2).toArray 0)
theorem tupB_rep {w : World} (l : List (Array UInt8 × Tok)) {ys : List (List UInt8)} (h : l.map (fun p => p.1.toList) = ys) : Rep w (.tup (ys.map .bytes)) (tupB l) := by
  subst h
  refine ⟨_, 0, rfl, ?_⟩
  rw [List.map_map, List.map_map]
  rfl
theorem at55 (P : Params) : (K P).lookup 55 = some (tupB [(#[114], 243), (#[119], 244), (#[97], 245), (#[114, 43], 246), (#[119, 43], 247), (#[97, 43], 248)]) := by kernel_rfl
theorem has55 (C : c.Ok) : Has c loc σ 55 (.tup (ways6.map .bytes)) := Has.fix C (at55 _) (tupB_rep _ rfl)
noncomputable def bad1 (acc : List UInt8) : Bool := acc == [113]
noncomputable def bad2 (s : St) (name acc : List UInt8) : Bool := name == [] || (name == [37, 120] || ((acc == [114] || acc == [114, 43]) && !(getK s.disk name).isSome))
noncomputable def bad3 (s : St) (name : List UInt8) : Bool := decide (s.most ≤ (s.opened.filter s.isOp).length) || (decide (255 < name.length) && !(getK s.disk name).isSome)
noncomputable def Refuses (s : St) (name acc b : List UInt8) : Prop := (b = b_invalidfileaccess ∧ bad1 acc = true) ∨ (b = b_undefinedfilename ∧ bad2 s name acc = true) ∨ (b = b_limitcheck ∧ bad3 s name = true)
structure NameOk (n : List UInt8) : Prop where
  len : n.length ≤ 256
  std : n ∉ [[37, 115, 116, 100, 105, 110], [37, 115, 116, 100, 111, 117, 116], [37, 115, 116, 100, 101, 114, 114]]
  pc : (cut none (some 1) n == [37]) = (n == [37, 120])
theorem w_in : ∀ acc ∈ ways7, (!ways6.any fun y => decide (y = acc)) = bad1 acc := by decide +kernel
theorem w_r : ∀ acc ∈ ways6, (cut none (some 1) acc == [114]) = (acc == [114] || acc == [114, 43]) := by decide +kernel
theorem w_w : ∀ acc ∈ ways6, (cut none (some 1) acc == [119]) = (acc == [119] || acc == [119, 43]) := by decide +kernel
theorem w_a : ∀ acc ∈ ways6, (cut none (some 1) acc == [97]) = (acc == [97] || acc == [97, 43]) := by decide +kernel
theorem w_plus : ∀ acc ∈ ways6, (cut (some 1) none acc == [43]) = wayCr acc := by decide +kernel
theorem w_len : ∀ acc ∈ ways7, acc.length ≤ 2 := by decide +kernel
theorem w_sub : ∀ acc ∈ ways7, bad1 acc = false → acc ∈ ways6 := by decide +kernel
noncomputable def diskOpen (s : St) (name acc : List UInt8) : List (List UInt8 × List UInt8) := if ((acc == [119] || acc == [119, 43]) || !(getK s.disk name).isSome) = true then putK s.disk name [] else s.disk
theorem diskOpen_is (s : St) (name acc : List UInt8) : (getK (diskOpen s name acc) name).isSome = true := by
  unfold diskOpen
  have hp : (getK (putK s.disk name []) name).isSome = true := by
    obtain ⟨v, hv⟩ := getK_some (l := putK s.disk name []) (n := name) (List.mem_map.mpr ⟨(name, []), mem_putK.mpr (.inl rfl), rfl⟩)
    rw [hv]; rfl
  split
  · exact hp
  · rename_i h
    cases e : (getK s.disk name).isSome
    · rw [e] at h; simp at h
    · rfl
theorem bad3_no {s : St} {name : List UInt8} : bad3 s name = false ↔ ((s.opened.filter s.isOp).length < s.most ∧ (name.length ≤ 255 ∨ (getK s.disk name).isSome = true)) := by
  unfold bad3
  cases (getK s.disk name).isSome <;> simp
theorem fopen_ok (C : c.Ok) (hH : c.A.handled = none) (hn : 4 ≤ c.n) (I : Inv E s σ) {told acc : List UInt8} (ht : told.length ≤ 1000) (hacc : acc ∈ ways7) (hN : NameOk (plain told)) (hp : ∀ x ∈ s.opened, ∃ r ∈ s.rows, r.f = x ∧ r.fop = s.isOp x) (ho : s.opened.length ≤ 100) (hes : s.disk.length ≤ 1000) (hoc : ∀ o, getK (diskOpen s (plain told) acc) (plain told) = some o → o.length ≤ 1000)
    (h1 : acc ∈ ways6 → bad2 s (plain told) acc = false → bad3 s (plain told) = false → ∀ σ' x (R : Row) o, getK (diskOpen s (plain told) acc) (plain told) = some o → R.way = acc → R.name = plain told → R.fop = true → R.was = o → R.fat = (if (acc == [97] || acc == [97, 43]) = true then o.length else 0) →
      Inv ((R.f, .inst (fileC R) R.d) :: (R.d, fileO s.dk R) :: E) { s with opA := x, many := s.many + 1, disk := diskOpen s (plain told) acc, opened := s.opened.filter s.isOp ++ [R.f] } σ' → Q (.ref R.f) σ')
    (h2 : ∀ b σ' x l, Refuses s (plain told) acc b → (l = s.opened ∨ l = s.opened.filter s.isOp) → Inv E { s with opA := x, opened := l } σ' → Thr σ' X b) : CallR c loc σ (.ref 370) [.ref s.T, .bytes told, .bytes acc] Q X := by
  refine call_fn C hH (by omega) (fn370 _) rfl (loc₀ := [(S "self", .ref s.T), (S "told", .bytes told), (S "access", .bytes acc)]) rfl ?_
  intro H n' A frames fr fix L hn' hH' C' F'
  have hn1 : 1 ≤ n' := by omega
  have hn2 : 2 ≤ n' := by omega
  have hlen := hN.len
  have halen := w_len acc hacc
  obtain ⟨hdeck, hcA, hown, hnm, hocA, hrwA, hT, htd, hdk, hopA⟩ := I.all
  refine S_seq ?_
  repeat' walk_at "w"
  refine device_ok C' hH' hn1 (by omega) ?_
  repeat' walk_at "w"
  refine o_notin_tup (ys := ways6) (has55 C') ?_
  rw [w_in acc hacc]
  repeat' walk_at "w"
  refine ite_of (fun hz => ?_) (fun hz => ?_)
  · repeat' walk_at "w"
    exact S_thr C' hH' hn1 (h2 _ σ s.opA s.opened (.inl ⟨rfl, hz⟩) (.inl rfl) I) (by kernel_rfl)
  have ha6 := w_sub acc hacc hz
  repeat' walk_at "w"
  refine ⟨_, _, by kernel_rfl, m_inst C' (by walk_at "at") (by walk_at "at") (f := 358) (by kernel_rfl) (by kernel_rfl), ?_⟩
  repeat' walk_at "w"
  refine standard_ok C' hH' hn2 I (by omega) hN.std (fun hpc => ?_) (fun hpc => ?_)
  case refine_2 =>
    rw [hN.pc] at hpc
    exact h2 _ σ s.opA s.opened (.inr (.inl ⟨rfl, by unfold bad2; rw [hpc]; simp⟩)) (.inl rfl) I
  rw [hN.pc] at hpc
  repeat' walk_at "w"
  refine ite_f ?_
  refine S_nil ?_
  refine K_next ?_
  refine S_join (K1 := fun l σ' => l = [(S "found", .none), (S "name", .bytes (plain told)), (S "self", .ref s.T), (S "told", .bytes told), (S "access", .bytes acc)] ∧ σ' = σ ∧ bad2 s (plain told) acc = false) ?_ ?_
  · have hthr : bad2 s (plain told) acc = true → Thr σ X b_undefinedfilename := fun e => h2 _ σ s.opA s.opened (.inr (.inl ⟨rfl, e⟩)) (.inl rfl) I
    unfold bad2 at hthr ⊢
    rw [hpc, Bool.false_or] at hthr ⊢
    repeat' walk_at "w"
    cases hz0 : (plain told == []) <;> rw [hz0] at hthr
    · refine ite_f ?_
      rw [Bool.false_or] at hthr ⊢
      repeat' walk_at "w"
      refine s_bytes (by omega) ?_
      repeat' walk_at "w"
      rw [w_r acc ha6]
      cases hr0 : (acc == [114] || acc == [114, 43]) <;> rw [hr0] at hthr
      · refine ite_f ?_
        repeat' walk_at "w"
        exact ⟨rfl, rfl, rfl, rfl⟩
      · refine ite_t ?_
        repeat' walk_at "w"
        refine o_notin_bd C' (es := s.disk.map fun p => (p.1, .bytes p.2)) (by walk_at "at") ?_
        rw [getK_map, Option.isSome_map]
        repeat' walk_at "w"
        cases hk : (getK s.disk (plain told)).isSome <;> rw [hk] at hthr
        · refine ite_t ?_
          repeat' walk_at "w"
          exact S_thr C' hH' hn1 (hthr rfl) (by kernel_rfl)
        · refine ite_f ?_
          repeat' walk_at "w"
          exact ⟨rfl, rfl, rfl, rfl⟩
    · refine ite_t ?_
      repeat' walk_at "w"
      exact S_thr C' hH' hn1 (hthr rfl) (by kernel_rfl)
  rintro _ _ ⟨rfl, rfl, hb2⟩
  refine S_seq ?_
  repeat' walk_at "w"
  refine ⟨_, _, by kernel_rfl, m_inst C' (by walk_at "at") (by walk_at "at") (f := 363) (by kernel_rfl) (by kernel_rfl), ?_⟩
  repeat' walk_at "w"
  have hlen' : (plain told).length ≤ 1000 := by omega
  refine check_room_ok C' hH' hn2 I hp hlen' ho (fun σ1 x I1 hroom => ?_) (fun σ1 x I1 hroom => ?_)
  case refine_2 => exact h2 _ σ1 x _ (.inr (.inr ⟨rfl, by rw [← Bool.not_eq_false, bad3_no]; exact hroom⟩)) (.inr rfl) I1
  obtain ⟨hdeck, hcA, hown, hnm, hocA, hrwA, hT, htd, hdk, hopA⟩ := I1.all
  refine K_next ?_
  refine S_join (K1 := fun l σ' => l = [(S "found", .none), (S "name", .bytes (plain told)), (S "self", .ref s.T), (S "told", .bytes told), (S "access", .bytes acc)] ∧ Inv E { s with opA := x, opened := s.opened.filter s.isOp, disk := diskOpen s (plain told) acc } σ') ?_ ?_
  · unfold diskOpen
    repeat' walk_at "w"
    refine s_bytes (by omega) ?_
    repeat' walk_at "w"
    rw [w_w acc ha6]
    have put : ∀ σ' : MHeap, σ' = upd σ1 s.dk (.bd (putK (s.disk.map fun p => (p.1, MV.bytes p.2)) (plain told) (.bytes []))) → Inv E { s with opA := x, opened := s.opened.filter s.isOp, disk := putK s.disk (plain told) [] } σ' := fun σ' e => by
      subst e
      rw [putK_map]
      exact I1.setdisk _
    cases hw0 : (acc == [119] || acc == [119, 43])
    · refine ite_f ?_
      repeat' walk_at "w"
      refine o_notin_bd C' (es := s.disk.map fun p => (p.1, .bytes p.2)) (by walk_at "at") ?_
      rw [getK_map, Option.isSome_map]
      repeat' walk_at "w"
      cases hk : (getK s.disk (plain told)).isSome
      · refine ite_t ?_
        repeat' walk_at "w"
        refine p_bd (es := s.disk.map fun p => (p.1, .bytes p.2)) (by walk_at "at") (by rw [List.length_map]; omega) ?_
        exact ⟨rfl, rfl, put _ rfl⟩
      · refine ite_f ?_
        repeat' walk_at "w"
        exact ⟨rfl, rfl, I1⟩
    · refine ite_t ?_
      repeat' walk_at "w"
      refine p_bd (es := s.disk.map fun p => (p.1, .bytes p.2)) (by walk_at "at") (by rw [List.length_map]; omega) ?_
      exact ⟨rfl, rfl, put _ rfl⟩
  rintro _ σ2 ⟨rfl, I2⟩
  obtain ⟨hdeck, hcA, hown, hnm, hocA, hrwA, hT, htd, hdk, hopA⟩ := I2.all
  obtain ⟨o, hgo⟩ := Option.isSome_iff_exists.mp (diskOpen_is s (plain told) acc)
  have hol := hoc o hgo
  refine S_join (K1 := fun l σ' => ∃ R : Row, l = [(S "found", .ref R.f), (S "name", .bytes (plain told)), (S "self", .ref s.T), (S "told", .bytes told), (S "access", .bytes acc)] ∧ R.way = acc ∧ R.name = plain told ∧ R.fop = true ∧ R.was = o ∧ R.fat = (if (acc == [97] || acc == [97, 43]) = true then o.length else 0) ∧ Inv ((R.f, .inst (fileC R) R.d) :: (R.d, fileO s.dk R) :: E) { s with opA := x, opened := s.opened.filter s.isOp, disk := diskOpen s (plain told) acc, many := s.many + 1 } σ') ?_ ?_
  · repeat' walk_at "w"
    cases hw : (acc == [114])
    · refine ite_f ?_
      repeat' walk_at "w"
      refine ⟨_, _, by kernel_rfl, m_inst C' (by walk_at "at") (by walk_at "at") (f := 351) (by kernel_rfl) (by kernel_rfl), ?_⟩
      refine new_number_ok (s := { s with opA := x, opened := s.opened.filter s.isOp, disk := diskOpen s (plain told) acc }) C' hH' hn1 I2 fun σ3 I3 => ?_
      obtain ⟨hdeck, hcA, hown, hnm, hocA, hrwA, hT, htd, hdk, hopA⟩ := I3.all
      repeat' walk_at "w"
      refine s_bytes (by omega) ?_
      repeat' walk_at "w"
      rw [w_plus acc ha6]
      refine s_bytes (by omega) ?_
      repeat' walk_at "w"
      rw [w_a acc ha6]
      refine initD_ok C' hH' hn2 (es := (diskOpen s (plain told) acc).map fun p => (p.1, .bytes p.2)) (oct := o) (by walk_at "at") (by rw [getK_map, hgo]; rfl) hol fun f d hf hd hne => ?_
      repeat' walk_at "w"
      have hnot : ¬ wayR acc = true := by unfold wayR; rw [hw]; exact Bool.false_ne_true
      refine ⟨rfl, ⟨0, f, d, acc, 0, o, false, 0, s.many + 1, plain told, true, if (acc == [97] || acc == [97, 43]) = true then o.length else 0, 0, .none⟩, rfl, rfl, rfl, rfl, rfl, rfl, ?_⟩
      have e1 : fileC ⟨0, f, d, acc, 0, o, false, 0, s.many + 1, plain told, true, if (acc == [97] || acc == [97, 43]) = true then o.length else 0, 0, .none⟩ = 280 := if_neg hnot
      have e2 : fileO s.dk ⟨0, f, d, acc, 0, o, false, 0, s.many + 1, plain told, true, if (acc == [97] || acc == [97, 43]) = true then o.length else 0, 0, .none⟩ = wO (s.many + 1) (plain told) (wayCr acc) true 0 .none s.dk (if (acc == [97] || acc == [97, 43]) = true then o.length else 0) := if_neg hnot
      rw [e1, e2]
      exact ((I3.push hf).push ((upd_ne hne).trans hd)).swap
    · refine ite_t ?_
      repeat' walk_at "w"
      refine ⟨_, _, by kernel_rfl, m_inst C' (by walk_at "at") (by walk_at "at") (f := 351) (by kernel_rfl) (by kernel_rfl), ?_⟩
      refine new_number_ok (s := { s with opA := x, opened := s.opened.filter s.isOp, disk := diskOpen s (plain told) acc }) C' hH' hn1 I2 fun σ3 I3 => ?_
      obtain ⟨hdeck, hcA, hown, hnm, hocA, hrwA, hT, htd, hdk, hopA⟩ := I3.all
      repeat' walk_at "w"
      refine i_bd (es := (diskOpen s (plain told) acc).map fun p => (p.1, .bytes p.2)) (v := .bytes o) (by walk_at "at") (by rw [getK_map, hgo]; rfl) ?_
      repeat' walk_at "w"
      refine initR_ok C' hH' hn2 fun f d hf hd hne => ?_
      repeat' walk_at "w"
      have hacc' : acc = [114] := by simpa using hw
      refine ⟨rfl, ⟨0, f, d, acc, 0, o, false, 0, s.many + 1, plain told, true, 0, 0, .none⟩, rfl, rfl, rfl, rfl, rfl, by subst hacc'; rfl, ?_⟩
      have e1 : fileC ⟨0, f, d, acc, 0, o, false, 0, s.many + 1, plain told, true, 0, 0, .none⟩ = 226 := if_pos hw
      have e2 : fileO s.dk ⟨0, f, d, acc, 0, o, false, 0, s.many + 1, plain told, true, 0, 0, .none⟩ = rO (s.many + 1) (plain told) true 0 .none o 0 := if_pos hw
      rw [e1, e2]
      exact ((I3.push hf).push ((upd_ne hne).trans hd)).swap
  rintro _ σ4 ⟨R, rfl, r1, r2, r3, r4, r5, I4⟩
  obtain ⟨hdeck, hcA, hown, hnm, hocA, hrwA, hT, htd, hdk, hopA⟩ := I4.all
  have hfl := List.length_filter_le s.isOp s.opened
  repeat' walk_at "w"
  refine ⟨_, _, by kernel_rfl, m_append hopA, ?_⟩
  repeat' walk_at "w"
  refine c_append hopA (by rw [List.length_map]; show (s.opened.filter s.isOp).length ≤ 1000000; omega) ?_
  repeat' walk_at "w"
  have I5 := I4.setopened (s.opened.filter s.isOp ++ [R.f])
  rw [List.map_append] at I5
  exact h1 ha6 hb2 (bad3_no.mpr hroom) _ x R o hgo r1 r2 r3 r4 r5 I5
end
section
variable {c : Cx} {loc : Loc} {σ : MHeap} {α β : Type} {X : MV → MHeap → Prop} {Q : MV → MHeap → Prop} {h h' : Heap} {a d : Addr} {Kt : MF → Loc → MHeap → Prop} {B : Bool → MHeap → Prop}
variable {E : Cells} {s : St}
theorem noName {l : Loc} {x : Str} (h : (l.all fun p => !decide (p.1 = x)) = true) : ∀ p ∈ l, p.1 ≠ x := fun p hp e => by
  have := List.all_eq_true.mp h p hp
  rw [e] at this
  simp at this
theorem meth_f (C : c.Ok) (I : Inv E s σ) {x f : Addr} (hx : x ∈ s.rows.map (·.f)) {nm : Str} (h1 : methOk (K c.w.params) 226 f nm = true) (h2 : methOk (K c.w.params) 280 f nm = true) (hno : ∀ num name cr cw op place last k v a, (k = S "octets" ∨ k = S "disk") → ((sdL (fO num name cr cw op place last k v a)).all fun p => !decide (p.1 = nm)) = true) : MethR c loc σ (.ref x) nm (.ref f) [.ref x] := by
  obtain ⟨r, hr, rfl⟩ := List.mem_map.mp hx
  have hf : σ r.f = some (.inst (fileC r) r.d) := I.row hr (by simp [rowCells])
  have hd : σ r.d = some (fileO s.dk r) := I.row hr (by simp [rowCells])
  unfold fileO at hd
  cases hw : wayR r.way
  · have e1 : fileC r = 280 := if_neg (by rw [hw]; exact Bool.false_ne_true)
    rw [if_neg (by rw [hw]; exact Bool.false_ne_true)] at hd
    rw [e1] at hf
    exact m_inst C hf hd h2 (hno _ _ _ _ _ _ _ _ _ _ (.inr rfl))
  · have e1 : fileC r = 226 := if_pos hw
    rw [if_pos hw] at hd
    rw [e1] at hf
    exact m_inst C hf hd h1 (hno _ _ _ _ _ _ _ _ _ _ (.inl rfl))
theorem no_close : ∀ num name cr cw op place last k v a, (k = S "octets" ∨ k = S "disk") → ((sdL (fO num name cr cw op place last k v a)).all fun p => !decide (p.1 = S "close")) = true := by
  rintro num name cr cw op place last k v a (rfl | rfl) <;> kernel_rfl
noncomputable def closeAll (ws : List Addr) (rows : List Row) : List Row := rows.map fun r => if r.f ∈ ws then r.close else r
theorem isSome_ex {γ : Type} {o : Option γ} (h : o.isSome = true) : ∃ v, o = some v := Option.isSome_iff_exists.mp h
theorem close_for (C : c.Ok) (hH : c.A.handled = none) (hn : 1 ≤ c.n) {ws : List Addr} {s0 : St} {rows : List Row} {i : Nat} {w : Addr} (hi : ws[i]? = some w) (hw : w ∈ rows.map (·.f))
    (I : Inv E { s0 with rows := foldF Row.close (ws.take i) rows } σ) (h : ∀ σ', Inv E { s0 with rows := foldF Row.close (ws.take (i + 1)) rows } σ' → Q .none σ') : CallR c loc σ (.ref 153) [.ref w] Q X := by
  refine close_f C hH hn I (x := w) ?_ fun σ' I' => h σ' ?_
  · show w ∈ (foldF Row.close (ws.take i) rows).map (·.f)
    rw [foldF_fs (g := Row.close) fun _ => rfl]
    exact hw
  · rw [take_at hi, foldF_snoc]
    exact I'
theorem delete_ok (C : c.Ok) (hH : c.A.handled = none) (hn : 3 ≤ c.n) (I : Inv E s σ) {told : List UInt8} (ht : told.length ≤ 1000) (hes : s.disk.length ≤ 1000) (hp : ∀ x ∈ s.opened, ∃ r ∈ s.rows, r.f = x ∧ s.isW (plain told) x = (r.fop && (!wayR r.way) && (r.name == plain told))) (ho : s.opened.length ≤ 100)
    (h1 : (getK s.disk (plain told)).isSome = true → ∀ σ', Inv E { s with disk := dropK s.disk (plain told), rows := closeAll (s.opened.filter (s.isW (plain told))) s.rows } σ' → Q .none σ')
    (h2 : (getK s.disk (plain told)).isSome = false → Thr σ X b_undefinedfilename) : CallR c loc σ (.ref 396) [.ref s.T, .bytes told] Q X := by
  refine call_fn C hH (by omega) (fn396 _) rfl (loc₀ := [(S "self", .ref s.T), (S "told", .bytes told)]) rfl ?_
  intro H n' A frames fr fix L hn' hH' C' F'
  have hn1 : 1 ≤ n' := by omega
  have hn2 : 2 ≤ n' := by omega
  obtain ⟨hdeck, hcA, hown, hnm, hocA, hrwA, hT, htd, hdk, hopA⟩ := I.all
  refine S_seq ?_
  repeat' walk_at "w"
  refine ⟨_, _, by kernel_rfl, m_inst C' (by walk_at "at") (by walk_at "at") (f := 389) (by kernel_rfl) (by kernel_rfl), ?_⟩
  repeat' walk_at "w"
  refine known_ok C' hH' hn2 I ht (fun hk => ?_) h2
  repeat' walk_at "w"
  refine ⟨_, _, by kernel_rfl, m_dpop hdk, ?_⟩
  repeat' walk_at "w"
  obtain ⟨o, hko⟩ := isSome_ex hk
  refine c_pop hdk (v := .bytes o) (by rw [List.length_map]; omega) (by rw [getK_map, hko]; rfl) ?_
  rw [show dropK (s.disk.map fun p => (p.1, MV.bytes p.2)) (plain told) = (dropK s.disk (plain told)).map fun p => (p.1, MV.bytes p.2) from dropK_map]
  have I1 := I.setdisk (dropK s.disk (plain told))
  unfold bdD at I1
  refine K_next ?_
  refine S_last ?_
  refine S_forF C' hH' [(S "name", .bytes (plain told)), (S "self", .ref s.T), (S "told", .bytes told)] (fun _ hp => hp) (noName (by kernel_rfl)) ?_ (by kernel_rfl) (fun v => by kernel_rfl)
  obtain ⟨hdeck1, hcA1, hown1, hnm1, hocA1, hrwA1, hT1, htd1, hdk1, hopA1⟩ := I1.all
  repeat' walk_at "v"
  refine ⟨_, _, by kernel_rfl, m_inst C' (by walk_at "at") (by walk_at "at") (f := 375) (by kernel_rfl) (by kernel_rfl), ?_⟩
  repeat' walk_at "v"
  refine writers_ok (s := { s with disk := dropK s.disk (plain told) }) (p := s.isW (plain told)) C' hH' hn1 I1 hp ho fun x hx => ?_
  have I2 := I1.push (o := .list ((s.opened.filter (s.isW (plain told))).map .ref)) hx
  have hfl := List.length_filter_le (s.isW (plain told)) s.opened
  have hwf : ∀ w ∈ s.opened.filter (s.isW (plain told)), w ∈ s.rows.map (·.f) := fun w hw => by
    obtain ⟨r, hr, e, _⟩ := hp w (List.mem_filter.mp hw).1
    exact List.mem_map.mpr ⟨r, hr, e⟩
  refine ⟨_, _, _, fun i σ' => Inv ((x, .list ((s.opened.filter (s.isW (plain told))).map .ref)) :: E) { s with disk := dropK s.disk (plain told), rows := foldF Row.close ((s.opened.filter (s.isW (plain told))).take i) s.rows } σ', It_list (xs := (s.opened.filter (s.isW (plain told))).map .ref) (by rw [List.length_map]; omega), I2, fun i σ' J => J.frame (.head _), fun i y σ' hy J It ob Cp => ?_, fun σ' J l hl => ?_⟩
  · obtain ⟨w, hw, rfl⟩ := map_at2 hy
    have hwm := hwf w (List.mem_of_getElem? hw)
    repeat' walk_at "w"
    refine ⟨_, _, by kernel_rfl, meth_f Cp J (f := 153) (by show w ∈ (foldF Row.close _ s.rows).map (·.f); rw [foldF_fs (g := Row.close) fun _ => rfl]; exact hwm) (by kernel_rfl) (by kernel_rfl) no_close, ?_⟩
    refine close_for (s0 := { s with disk := dropK s.disk (plain told) }) (rows := s.rows) Cp hH' hn1 hw hwm J fun σ'' J' => ?_
    exact ⟨fun p hp => .tail _ hp, J'⟩
  · rw [List.length_map, List.take_length, foldF_map (g := Row.close) (fun _ => rfl) (fun _ => rfl)] at J
    exact h1 hk σ' J.pop
end
section
variable {c : Cx} {loc : Loc} {σ : MHeap} {α β : Type} {X : MV → MHeap → Prop} {Q : MV → MHeap → Prop} {h h' : Heap} {a d : Addr} {Kt : MF → Loc → MHeap → Prop} {B : Bool → MHeap → Prop}
variable {E : Cells} {s : St}
theorem WE.mono {t : Sem Value} {Q Q' : MV → MHeap → Prop} (h : WE c loc σ t Q X) (hQ : ∀ v σ', Q v σ' → Q' v σ') : WE c loc σ t Q' X := WT.mono h (fun v σ' q => hQ _ _ q) fun _ _ x => x
theorem WS_weak {loc' : Loc} {ss : List Stmt} (h : WS c loc' σ ss Kt X) (hl : ∀ p ∈ loc', p ∈ loc) : WS c loc σ ss Kt X := WL.weak h hl
noncomputable def Row.ren (n : List UInt8) (r : Row) : Row := { r with name := n }
theorem name_f (C : c.Ok) (I : Inv E s σ) {x : Addr} (hx : x ∈ s.rows.map (·.f)) {n : List UInt8} {Q : Unit → MHeap → Prop} (h : ∀ σ', Inv E { s with rows := updF (Row.ren n) x s.rows } σ' → Q () σ') :
    ∀ ou vu, er ou = .ref x → er vu = .bytes n → WT c loc σ (setAttr ou "name" vu) Q X := by
  obtain ⟨R1, r, R2, e, rfl⟩ := split_f hx
  have nd := I.fs_nodup
  have hm : r ∈ s.rows := by rw [e]; simp
  have hf : σ r.f = some (.inst (fileC r) r.d) := I.row hm (by simp [rowCells])
  have hd : σ r.d = some (fileO s.dk r) := I.row hm (by simp [rowCells])
  have I' := I.setrowD e (r' := r.ren n) rfl rfl rfl rfl rfl
  rw [← updF_split (g := Row.ren n) (by rw [e] at nd; exact nd), ← e] at I'
  have fin := h _ I'
  cases hw : wayR r.way
  · have hn' : ¬ wayR r.way = true := by rw [hw]; exact Bool.false_ne_true
    have e1 : fileC r = 280 := if_neg hn'
    have e2 : fileO s.dk r = wO r.num r.name (wayCr r.way) r.fop r.place r.last s.dk r.fat := if_neg hn'
    have e3 : fileO s.dk (r.ren n) = wO r.num n (wayCr r.way) r.fop r.place r.last s.dk r.fat := if_neg hn'
    rw [e1] at hf
    rw [e2] at hd
    rw [e3] at fin
    exact a_put C hf hd (leB (by kernel_rfl)) (by walk_at "put") (by kernel_rfl) fin
  · have e1 : fileC r = 226 := if_pos hw
    have e2 : fileO s.dk r = rO r.num r.name r.fop r.place r.last r.was r.fat := if_pos hw
    have e3 : fileO s.dk (r.ren n) = rO r.num n r.fop r.place r.last r.was r.fat := if_pos hw
    rw [e1] at hf
    rw [e2] at hd
    rw [e3] at fin
    exact a_put C hf hd (leB (by kernel_rfl)) (by walk_at "put") (by kernel_rfl) fin
noncomputable def nameAll (n : List UInt8) (ws : List Addr) (rows : List Row) : List Row := rows.map fun r => if r.f ∈ ws then r.ren n else r
noncomputable def RefusesR (s : St) (old fresh b : List UInt8) : Prop := (b = b_undefinedfilename ∧ (getK s.disk old).isSome = false) ∨ (b = b_invalidfileaccess ∧ (fresh == [] || fresh == [37, 120]) = true) ∨ (b = b_limitcheck ∧ 255 < fresh.length)
noncomputable def closersOf (s : St) (old fresh : List UInt8) : List Addr := if (fresh == old) = true then [] else s.opened.filter (s.isW fresh)
theorem rename_ok (C : c.Ok) (hH : c.A.handled = none) (hn : 3 ≤ c.n) (I : Inv E s σ) {told other : List UInt8} (ht : told.length ≤ 1000) (hto : other.length ≤ 1000) (hN : NameOk (plain other)) (hes : s.disk.length ≤ 1000) (hp : ∀ n, ∀ x ∈ s.opened, ∃ r ∈ s.rows, r.f = x ∧ s.isW n x = (r.fop && (!wayR r.way) && (r.name == n))) (ho : s.opened.length ≤ 100)
    (h1 : ∀ o, getK s.disk (plain told) = some o → (plain other == [] || plain other == [37, 120]) = false → (plain other).length ≤ 255 → ∀ σ', Inv E { s with disk := putK (dropK s.disk (plain told)) (plain other) o, rows := nameAll (plain other) (s.opened.filter (s.isW (plain told))) (closeAll (closersOf s (plain told) (plain other)) s.rows) } σ' → Q .none σ')
    (h2 : ∀ b, RefusesR s (plain told) (plain other) b → Thr σ X b) : CallR c loc σ (.ref 403) [.ref s.T, .bytes told, .bytes other] Q X := by
  refine call_fn C hH (by omega) (fn403 _) rfl (loc₀ := [(S "self", .ref s.T), (S "told", .bytes told), (S "other", .bytes other)]) rfl ?_
  intro H n' A frames fr fix L hn' hH' C' F'
  have hn1 : 1 ≤ n' := by omega
  have hn2 : 2 ≤ n' := by omega
  have hlen := hN.len
  obtain ⟨hdeck, hcA, hown, hnm, hocA, hrwA, hT, htd, hdk, hopA⟩ := I.all
  refine S_seq ?_
  refine S_swap (names := [S "old", S "fresh"]) hH' ?_ (by kernel_rfl) (by kernel_rfl)
  repeat' walk_at "v"
  refine ⟨_, _, by kernel_rfl, m_inst C' (by walk_at "at") (by walk_at "at") (f := 389) (by kernel_rfl) (by kernel_rfl), ?_⟩
  repeat' walk_at "v"
  refine known_ok C' hH' hn2 I ht (fun hk => ?_) (fun hk => h2 _ (.inl ⟨rfl, hk⟩))
  repeat' walk_at "v"
  refine device_ok C' hH' hn1 hto ?_
  repeat' walk_at "v"
  refine ⟨leB (by kernel_rfl), rfl, A_cons fun u hu => A_bind C' hu (by walk_at "wipe") (A_cons fun u hu => A_bind C' hu (by walk_at "wipe") (A_nil ?_) (by kernel_rfl)) (by kernel_rfl)⟩
  obtain ⟨o, hko⟩ := isSome_ex hk
  refine K_next ?_
  refine S_join (K1 := fun l σ' => l = [(S "old", .bytes (plain told)), (S "fresh", .bytes (plain other)), (S "self", .ref s.T), (S "told", .bytes told), (S "other", .bytes other)] ∧ σ' = σ ∧ (plain other == [] || plain other == [37, 120]) = false) ?_ ?_
  · have hthr : (plain other == [] || plain other == [37, 120]) = true → Thr σ X b_invalidfileaccess := fun e => h2 _ (.inr (.inl ⟨rfl, e⟩))
    repeat' walk_at "w"
    cases hz0 : (plain other == []) <;> rw [hz0] at hthr
    · refine ite_f ?_
      rw [Bool.false_or] at hthr ⊢
      repeat' walk_at "w"
      refine s_bytes (by omega) ?_
      repeat' walk_at "w"
      rw [hN.pc]
      cases hz1 : (plain other == [37, 120]) <;> rw [hz1] at hthr
      · refine ite_f ?_
        repeat' walk_at "w"
        exact ⟨rfl, rfl, rfl, rfl⟩
      · refine ite_t ?_
        repeat' walk_at "w"
        exact S_thr C' hH' hn1 (hthr rfl) (by kernel_rfl)
    · refine ite_t ?_
      repeat' walk_at "w"
      exact S_thr C' hH' hn1 (hthr rfl) (by kernel_rfl)
  rintro _ _ ⟨rfl, rfl, hb⟩
  repeat' walk_at "w"
  refine c_len_bytes (by omega) ?_
  repeat' walk_at "w"
  refine o_gt (b := 255) ?_
  repeat' walk_at "w"
  refine ite_of (fun hz => ?_) (fun hz => ?_)
  · repeat' walk_at "w"
    exact S_thr C' hH' hn1 (h2 _ (.inr (.inr ⟨rfl, by have hz' : (255 : Int) < ((plain other).length : Int) := by { simpa using hz }; omega⟩))) (by kernel_rfl)
  have hle : (plain other).length ≤ 255 := by
    have hz' : ((plain other).length : Int) ≤ 255 := by simpa using hz
    omega
  repeat' walk_at "w"
  refine ⟨_, _, by kernel_rfl, m_inst C' (by walk_at "at") (by walk_at "at") (f := 375) (by kernel_rfl) (by kernel_rfl), ?_⟩
  repeat' walk_at "w"
  refine writers_ok (p := s.isW (plain told)) C' hH' hn1 I (hp _) ho fun x hx => ?_
  repeat' walk_at "v"
  have I1 := I.push (o := .list ((s.opened.filter (s.isW (plain told))).map .ref)) hx
  have hfl := List.length_filter_le (s.isW (plain told)) s.opened
  have hfl2 := List.length_filter_le (s.isW (plain other)) s.opened
  have hwf : ∀ n, ∀ w ∈ s.opened.filter (s.isW n), w ∈ s.rows.map (·.f) := fun n w hw => by
    obtain ⟨r, hr, e, _⟩ := hp n w (List.mem_filter.mp hw).1
    exact List.mem_map.mpr ⟨r, hr, e⟩
  refine K_next ?_
  refine S_join (K1 := fun l σ' => (∀ p ∈ ([(S "movers", .ref x), (S "old", .bytes (plain told)), (S "fresh", .bytes (plain other)), (S "self", .ref s.T)] : Loc), p ∈ l) ∧ Inv ((x, .list ((s.opened.filter (s.isW (plain told))).map .ref)) :: E) { s with rows := closeAll (closersOf s (plain told) (plain other)) s.rows } σ') ?_ ?_
  · obtain ⟨hdeck1, hcA1, hown1, hnm1, hocA1, hrwA1, hT1, htd1, hdk1, hopA1⟩ := I1.all
    refine S_forF C' hH' [(S "movers", .ref x), (S "old", .bytes (plain told)), (S "fresh", .bytes (plain other)), (S "self", .ref s.T)] (by simp) (noName (by kernel_rfl)) ?_ (by kernel_rfl) (fun v => by kernel_rfl)
    refine WE.mono (Q := fun v σ' => ∃ z, v = .ref z ∧ Inv ((z, .list ((closersOf s (plain told) (plain other)).map .ref)) :: (x, .list ((s.opened.filter (s.isW (plain told))).map .ref)) :: E) s σ') ?_ ?_
    · unfold closersOf
      repeat' walk_at "v"
      refine ite_of (fun hz => ?_) (fun hz => ?_)
      · repeat' walk_at "v"
        refine E_list C' ?_
        repeat' walk_at "v"
        refine ⟨leB rfl, fun z hz2 => ⟨z, rfl, ?_⟩⟩
        rw [if_pos hz]
        exact I1.push hz2
      · repeat' walk_at "v"
        refine ⟨_, _, by kernel_rfl, m_inst C' (by walk_at "at") (by walk_at "at") (f := 375) (by kernel_rfl) (by kernel_rfl), ?_⟩
        repeat' walk_at "v"
        refine writers_ok (p := s.isW (plain other)) C' hH' hn1 I1 (hp _) ho fun z hz2 => ⟨z, rfl, ?_⟩
        rw [if_neg (by rw [hz]; exact Bool.false_ne_true)]
        exact I1.push hz2
    · rintro _ σ' ⟨z, rfl, I2⟩
      have hcl : (closersOf s (plain told) (plain other)).length ≤ 100 := by unfold closersOf; split; exact Nat.zero_le _; omega
      have hcf : ∀ w ∈ closersOf s (plain told) (plain other), w ∈ s.rows.map (·.f) := fun w hw => by
        unfold closersOf at hw
        split at hw
        · cases hw
        · exact hwf _ w hw
      refine ⟨_, _, _, fun i σ' => Inv ((z, .list ((closersOf s (plain told) (plain other)).map .ref)) :: (x, .list ((s.opened.filter (s.isW (plain told))).map .ref)) :: E) { s with rows := foldF Row.close ((closersOf s (plain told) (plain other)).take i) s.rows } σ', It_list (xs := (closersOf s (plain told) (plain other)).map .ref) (by rw [List.length_map]; omega), I2, fun i σ' J => J.frame (.head _), fun i y σ' hy J It ob Cp => ?_, fun σ' J l hl => ?_⟩
      · obtain ⟨w, hw, rfl⟩ := map_at2 hy
        have hwm := hcf w (List.mem_of_getElem? hw)
        repeat' walk_at "w"
        refine ⟨_, _, by kernel_rfl, meth_f Cp J (f := 153) (by show w ∈ (foldF Row.close _ s.rows).map (·.f); rw [foldF_fs (g := Row.close) fun _ => rfl]; exact hwm) (by kernel_rfl) (by kernel_rfl) no_close, ?_⟩
        refine close_for (s0 := s) (rows := s.rows) Cp hH' hn1 hw hwm J fun σ'' J' => ?_
        exact ⟨fun p hp => .tail _ hp, J'⟩
      · rw [List.length_map, List.take_length, foldF_map (g := Row.close) (fun _ => rfl) (fun _ => rfl)] at J
        exact ⟨rfl, hl, J.pop⟩
  rintro l σ' ⟨hl, I3⟩
  refine WS_weak (loc' := [(S "movers", .ref x), (S "old", .bytes (plain told)), (S "fresh", .bytes (plain other)), (S "self", .ref s.T)]) ?_ hl
  obtain ⟨hdeck, hcA, hown, hnm, hocA, hrwA, hT, htd, hdk, hopA⟩ := I3.all
  refine S_seq ?_
  repeat' walk_at "v"
  refine ⟨_, _, by kernel_rfl, m_dpop hdk, ?_⟩
  repeat' walk_at "v"
  refine c_pop hdk (v := .bytes o) (by rw [List.length_map]; show s.disk.length ≤ 1000000; omega) (by rw [getK_map]; show (getK s.disk (plain told)).map MV.bytes = _; rw [hko]; rfl) ?_
  rw [show dropK (s.disk.map fun p => (p.1, MV.bytes p.2)) (plain told) = (dropK s.disk (plain told)).map fun p => (p.1, MV.bytes p.2) from dropK_map]
  have I4 := I3.setdisk (dropK s.disk (plain told))
  unfold bdD at I4
  obtain ⟨hdeck4, hcA4, hown4, hnm4, hocA4, hrwA4, hT4, htd4, hdk4, hopA4⟩ := I4.all
  have hdl := dropK_len (l := s.disk) (n := plain told)
  repeat' walk_at "v"
  refine p_bd hdk4 (by rw [List.length_map]; show (dropK s.disk (plain told)).length ≤ 1000000; omega) ?_
  have I5 := I4.setdisk (putK (dropK s.disk (plain told)) (plain other) o)
  rw [putK_map]
  unfold bdD at I5
  refine K_next ?_
  refine S_last ?_
  refine S_forF C' hH' [(S "fresh", .bytes (plain other))] (by simp) (noName (by kernel_rfl)) ?_ (by kernel_rfl) (fun v => by kernel_rfl)
  repeat' walk_at "v"
  have hfs : (closeAll (closersOf s (plain told) (plain other)) s.rows).map (·.f) = s.rows.map (·.f) := by
    unfold closeAll
    rw [List.map_map]
    refine List.map_congr_left fun r _ => ?_
    show (if r.f ∈ _ then r.close else r).f = r.f
    split <;> rfl
  refine ⟨_, _, _, fun i σ' => Inv ((x, .list ((s.opened.filter (s.isW (plain told))).map .ref)) :: E) { s with disk := putK (dropK s.disk (plain told)) (plain other) o, rows := foldF (Row.ren (plain other)) ((s.opened.filter (s.isW (plain told))).take i) (closeAll (closersOf s (plain told) (plain other)) s.rows) } σ', It_list (xs := (s.opened.filter (s.isW (plain told))).map .ref) (by rw [List.length_map]; omega), I5, fun i σ' J => J.frame (.head _), fun i y σ' hy J It ob Cp => ?_, fun σ' J l hl => ?_⟩
  · obtain ⟨w, hw, rfl⟩ := map_at2 hy
    have hwm := hwf _ w (List.mem_of_getElem? hw)
    repeat' walk_at "w"
    refine name_f Cp J (by show w ∈ (foldF (Row.ren (plain other)) _ _).map (·.f); rw [foldF_fs (g := Row.ren (plain other)) fun _ => rfl, hfs]; exact hwm) fun σ'' J' => ?_
    refine ⟨fun p hp => .tail _ hp, ?_⟩
    show Inv _ { s with disk := putK (dropK s.disk (plain told)) (plain other) o, rows := foldF (Row.ren (plain other)) ((s.opened.filter (s.isW (plain told))).take (i + 1)) (closeAll (closersOf s (plain told) (plain other)) s.rows) } σ''
    rw [take_at hw, foldF_snoc]
    exact J'
  · rw [List.length_map, List.take_length, foldF_map (g := Row.ren (plain other)) (fun _ => rfl) (fun _ => rfl)] at J
    exact h1 o hko hb hle σ' J.pop
end
section
variable {c : Cx} {loc : Loc} {σ : MHeap} {α β : Type} {X : MV → MHeap → Prop} {Q : MV → MHeap → Prop} {h h' : Heap} {a d : Addr} {Kt : MF → Loc → MHeap → Prop} {B : Bool → MHeap → Prop}
theorem fn344 (P : Params) : FnAt P 344 (mdef 13 0) (S "FileTable.__init__") (.ref 337) (.str (S "postcore.files") 241) 343 [S "self", S "disk", S "most"] :=
  ⟨by kernel_rfl, by kernel_rfl, fun us e s k => by
    match us, e with
    | [u1, u2, u3], _ => exact binds_K (T := 337) (o := ob (.type "tuple") (.seq #[.none] 0)) k rfl (by kernel_rfl) rfl rfl rfl, by decide +kernel, by kernel_rfl, by kernel_rfl, by kernel_rfl, by kernel_rfl, by kernel_rfl⟩
theorem number_raw (C : c.Ok) (hH : c.A.handled = none) (hn : 1 ≤ c.n) {T td : Addr} {fs fs' : List (Str × MV)} {m : Int} (hT : σ T = some (.inst 413 td)) (htd : σ td = some (.sd fs)) (hz : fs.length ≤ 900) (hl : Look fs (S "many") (.int m)) (hp : PutR (S "many") (.int (m + 1)) fs fs') (hl' : Look fs' (S "many") (.int (m + 1)))
    (h : Q (.int (m + 1)) (upd σ td (.sd fs'))) : CallR c loc σ (.ref 351) [.ref T] Q X := by
  refine call_fn C hH hn (fn351 _) rfl (loc₀ := [(S "self", .ref T)]) rfl ?_
  intro H n' A frames fr fix L hn' hH' C' F'
  have hne : T ≠ td := ne_of hT htd nofun
  refine S_seq ?_
  repeat' walk_at "w"
  refine a_getR C' hT htd hl rfl (by kernel_rfl) ?_
  repeat' walk_at "w"
  refine a_put C' hT htd hz hp (by kernel_rfl) ?_
  repeat' walk_at "w"
  refine a_getR C' (at_ne hT hne) (upd_self _ _ _) hl' rfl (by kernel_rfl) ?_
  repeat' walk_at "w"
  exact h
noncomputable abbrev tabO (dk : Addr) (most : Nat) (many : Int) (opA si so se : Addr) : MObj := .sd [(S "disk", .ref dk), (S "most", .int most), (S "many", .int many), (S "opened", .ref opA), (S "std_in", .ref si), (S "std_out", .ref so), (S "std_err", .ref se)]
structure Tab (σ σ' : MHeap) (T td r : Addr) (fs : List (Str × MV)) : Prop where
  hr : σ r = none
  rT : r ≠ T
  rd : r ≠ td
  T : σ' T = some (.inst 413 td)
  td : σ' td = some (.sd fs)
  r : σ' r = some (.list [])
  up : ∀ b o, σ b = some o → σ' b = some o
theorem Tab.put {σ σ' : MHeap} {T td r : Addr} {fs fs' : List (Str × MV)} (t : Tab σ σ' T td r fs) (h : σ td = none) : Tab σ (upd σ' td (.sd fs')) T td r fs' :=
  ⟨t.hr, t.rT, t.rd, at_ne t.T (ne_of t.T t.td nofun), upd_self _ _ _, at_ne t.r t.rd, fun b o q => at_ne (t.up b o q) (ne_fresh q h)⟩
theorem Tab.weak {σ σ' σ'' : MHeap} {T td r : Addr} {fs : List (Str × MV)} (t : Tab σ σ' T td r fs) (h : ∀ b o, σ' b = some o → σ'' b = some o) : Tab σ σ'' T td r fs :=
  ⟨t.hr, t.rT, t.rd, h _ _ t.T, h _ _ t.td, h _ _ t.r, fun b o q => h _ _ (t.up b o q)⟩
theorem up_new {σ : MHeap} {x d : Addr} {o o' : MObj} (hx : σ x = none) (hd : σ d = none) : ∀ b p, σ b = some p → upd (upd σ x o) d o' b = some p := fun b p q => at_ne (at_ne q (ne_fresh q hx)) (ne_fresh q hd)
theorem table_ok (C : c.Ok) (hH : c.A.handled = none) (hn : 4 ≤ c.n) {dk : Addr} {most : Nat}
    (h : ∀ T td opA si so se σ', σ T = none → σ td = none → td ≠ T → Tab σ σ' T td opA [(S "disk", .ref dk), (S "most", .int most), (S "many", .int 3), (S "opened", .ref opA), (S "std_in", .ref si), (S "std_out", .ref so), (S "std_err", .ref se)] → Q (.ref T) σ') : CallR c loc σ (.ref 413) [.ref dk, .int most] Q X := by
  refine call_new C hH (by omega) (fn344 _) (by kernel_rfl) rfl ?_
  intro x d hx hd hne H n' A frames fr fix L hn' hH' C' F'
  have hn1 : 1 ≤ n' := by omega
  have hn2 : 2 ≤ n' := by omega
  have hne' := hne.symm
  refine S_seq ?_
  show W1 _ [(S "self", .ref x), (S "disk", .ref dk), (S "most", .int most)] _ _ _ _
  repeat' walk_at "v"
  refine K_next ?_
  refine S_seq ?_
  repeat' walk_at "v"
  refine K_next ?_
  refine S_seq ?_
  repeat' walk_at "v"
  refine K_next ?_
  refine S_join (K1 := fun l σ' => l = [(S "self", .ref x), (S "disk", .ref dk), (S "most", .int most)] ∧ ∃ r, Tab σ σ' x d r [(S "disk", .ref dk), (S "most", .int most), (S "many", .int 0), (S "opened", .ref r)]) ?_ ?_
  · repeat' walk_at "v"
    refine E_list C' ?_
    repeat' walk_at "v"
    refine ⟨leB rfl, fun r hr => ?_⟩
    have hrx : x ≠ r := fun e => by rw [← e, upd_ne hne', upd_ne hne', upd_ne hne', upd_self] at hr; cases hr
    have hrd : d ≠ r := fun e => by rw [← e, upd_self] at hr; cases hr
    have hr0 : σ r = none := by rw [upd_ne hrd.symm, upd_ne hrd.symm, upd_ne hrd.symm, upd_ne hrx.symm, upd_ne hrd.symm] at hr; exact hr
    repeat' walk_at "v"
    refine ⟨rfl, rfl, r, hr0, hrx.symm, hrd.symm, by walk_at "at", by walk_at "at", by walk_at "at", fun b o q => ?_⟩
    have h1 : b ≠ x := ne_fresh q hx
    have h2 : b ≠ d := ne_fresh q hd
    have h3 : b ≠ r := ne_fresh q hr0
    walk_at "at"
  rintro _ σ1 ⟨rfl, r, t1⟩
  have hT := t1.T
  have htd := t1.td
  refine S_join (K1 := fun l σ' => l = [(S "self", .ref x), (S "disk", .ref dk), (S "most", .int most)] ∧ ∃ si, Tab σ σ' x d r [(S "disk", .ref dk), (S "most", .int most), (S "many", .int 1), (S "opened", .ref r), (S "std_in", .ref si)]) ?_ ?_
  · repeat' walk_at "v"
    refine ⟨_, _, by kernel_rfl, m_inst C' hT htd (f := 351) (by kernel_rfl) (by kernel_rfl), ?_⟩
    refine number_raw C' hH' hn1 hT htd (leB (by kernel_rfl)) (by walk_at "look") (by walk_at "put") (by walk_at "look") ?_
    have t2 := t1.put (fs' := [(S "disk", .ref dk), (S "most", .int most), (S "many", .int (0 + 1)), (S "opened", .ref r)]) hd
    repeat' walk_at "v"
    refine initR_ok C' hH' hn2 fun f e hf he hfe => ?_
    have t3 := t2.weak (up_new (o := .inst 226 e) (o' := rO (0 + 1) [37, 115, 116, 100, 105, 110] true 0 .none [] 0) hf he)
    have hT3 := t3.T
    have htd3 := t3.td
    repeat' walk_at "v"
    exact ⟨rfl, rfl, f, t3.put hd⟩
  rintro _ σ2 ⟨rfl, si, t2⟩
  have hT2 := t2.T
  have htd2 := t2.td
  refine S_join (K1 := fun l σ' => l = [(S "self", .ref x), (S "disk", .ref dk), (S "most", .int most)] ∧ ∃ so, Tab σ σ' x d r [(S "disk", .ref dk), (S "most", .int most), (S "many", .int 2), (S "opened", .ref r), (S "std_in", .ref si), (S "std_out", .ref so)]) ?_ ?_
  · repeat' walk_at "v"
    refine ⟨_, _, by kernel_rfl, m_inst C' hT2 htd2 (f := 351) (by kernel_rfl) (by kernel_rfl), ?_⟩
    refine number_raw C' hH' hn1 hT2 htd2 (leB (by kernel_rfl)) (by walk_at "look") (by walk_at "put") (by walk_at "look") ?_
    have t3 := t2.put (fs' := [(S "disk", .ref dk), (S "most", .int most), (S "many", .int (1 + 1)), (S "opened", .ref r), (S "std_in", .ref si)]) hd
    repeat' walk_at "v"
    refine initS_ok C' hH' hn2 fun f σ3 up3 => ?_
    have t4 := t3.weak up3
    have hT3 := t4.T
    have htd3 := t4.td
    repeat' walk_at "v"
    exact ⟨rfl, rfl, f, t4.put hd⟩
  rintro _ σ3 ⟨rfl, so, t3⟩
  have hT3 := t3.T
  have htd3 := t3.td
  refine S_last ?_
  repeat' walk_at "v"
  refine ⟨_, _, by kernel_rfl, m_inst C' hT3 htd3 (f := 351) (by kernel_rfl) (by kernel_rfl), ?_⟩
  refine number_raw C' hH' hn1 hT3 htd3 (leB (by kernel_rfl)) (by walk_at "look") (by walk_at "put") (by walk_at "look") ?_
  have t4 := t3.put (fs' := [(S "disk", .ref dk), (S "most", .int most), (S "many", .int (2 + 1)), (S "opened", .ref r), (S "std_in", .ref si), (S "std_out", .ref so)]) hd
  repeat' walk_at "v"
  refine initS_ok C' hH' hn2 fun f σ4 up4 => ?_
  have t5 := t4.weak up4
  have hT5 := t5.T
  have htd5 := t5.td
  repeat' walk_at "v"
  exact ⟨rfl, h x d r si so f _ hx hd hne (t5.put hd)⟩
end
section
variable {c : Cx} {loc : Loc} {σ : MHeap} {α β : Type} {X : MV → MHeap → Prop} {Q : MV → MHeap → Prop} {h h' : Heap} {a d : Addr} {Kt : MF → Loc → MHeap → Prop} {B : Bool → MHeap → Prop}
variable {E : Cells} {s : St}
noncomputable def names9 : List (List UInt8) := [[97], [98], [37, 111, 115, 37, 97], [99], [100], [37, 111, 115, 37, 99], [], [37, 120], (List.replicate 256 [110]).flatten]
theorem names_ok (C : c.Ok) (hH : c.A.handled = none) (hn : 1 ≤ c.n) (h : ∀ r, σ r = none → Q (.ref r) (upd σ r (.tup (names9.map .bytes)))) : CallR c loc σ (.ref 424) [] Q X := by
  refine call_fn C hH hn (fn424 _) rfl (loc₀ := []) rfl ?_
  intro H n' A frames fr fix L hn' hH' C' F'
  refine S_last ?_
  repeat' walk_at "v"
  refine E_tuple C' ?_
  repeat' walk_at "v"
  refine o_mulb (by decide) (by decide) (by decide) (by decide) ?_
  repeat' walk_at "v"
  exact ⟨leB (by kernel_rfl), h⟩
theorem draw_inv (C : c.Ok) (hn : 1 ≤ c.n) (I : Inv E s σ) (hk : s.k ≤ 1000) (hcs : s.cs.length ≤ 1000) {b : Int} (hb : 0 < b) (h : ∀ r σ', 0 ≤ r → r < b → Inv E { s with k := s.k + 1 } σ' → Q (.int r) σ') : CallR c loc σ (.ref 433) [.ref s.deck, .int b] Q X := by
  obtain ⟨hdeck, hcA, _⟩ := I.all
  exact draw_ok C (n := c.n - 1) (by omega) hdeck hcA (ne_of hcA hdeck nofun) hk hcs hb fun r h0 h1 => h r _ h0 h1 (I.setk (s.k + 1))
theorem E_draw (C : c.Ok) (hn : 1 ≤ c.n) {p3 p4 p5 p6 : Pos} {kk : Nat} {b : Int} (hl : Look loc (S "deck") (.ref s.deck)) (k2 : c.env.kindOf "_law_draw" = some .globalImplicit) (k3 : c.env.kindOf "deck" = some .local) (I : Inv E s σ) (hk : s.k ≤ 1000) (hcs : s.cs.length ≤ 1000) (hb : 0 < b) (h : ∀ r σ', 0 ≤ r → r < b → Inv E { s with k := s.k + 1 } σ' → Q (.int r) σ') :
    WE c loc σ (eval (.Call (.Name (S "_law_draw") p3) [.Name (S "deck") p4, .Constant (.int b) kk p5] [] p6) c.env) Q X := by
  refine E_call C ?_ rfl rfl
  refine E_global C ?_ (g_law_draw _) k2 (by kernel_rfl)
  refine keep_and (by kernel_rfl) ?_
  refine Args_cons ?_ rfl
  refine E_local C hl ?_ k3 (by kernel_rfl)
  refine Args_cons ?_ rfl
  refine E_int ?_
  refine Args_nil ?_
  exact draw_inv C hn I hk hcs hb h
theorem E_pickN (C : c.Ok) (hH : c.A.handled = none) (hn : 1 ≤ c.n) {p1 p2 p3 p4 p5 p6 p7 : Pos} {kk : Nat} {b : Nat} (hl : Look loc (S "deck") (.ref s.deck)) (k1 : c.env.kindOf "_law_names" = some .globalImplicit) (k2 : c.env.kindOf "_law_draw" = some .globalImplicit) (k3 : c.env.kindOf "deck" = some .local) (I : Inv E s σ) (hk : s.k ≤ 1000) (hcs : s.cs.length ≤ 1000) (hb : 0 < b) (hb9 : b ≤ 9) (h : ∀ t σ', t ∈ names9 → Inv E { s with k := s.k + 1 } σ' → Q (.bytes t) σ') :
    WE c loc σ (eval (.Subscript (.Call (.Name (S "_law_names") p1) [] [] p2) (.Call (.Name (S "_law_draw") p3) [.Name (S "deck") p4, .Constant (.int b) kk p5] [] p6) p7) c.env) Q X := by
  refine E_sub ?_
  refine E_call0 C ?_
  refine E_global C ?_ (g_law_names _) k1 (by kernel_rfl)
  refine keep_and (by kernel_rfl) ?_
  refine names_ok C hH hn fun r hr => ?_
  refine E_draw C hn hl k2 k3 (I.push hr) hk hcs (by omega) fun i σ' h0 h1 I' => ?_
  have hi : i.toNat < names9.length := by show i.toNat < 9; omega
  refine i_tup (v := .bytes names9[i.toNat]) (Has.of (I'.frame (.head _))) h0 (by omega) (by rw [List.getElem?_map, List.getElem?_eq_getElem hi]; rfl) ?_
  exact h _ σ' (List.getElem_mem hi) I'.pop
theorem E_pickG (C : c.Ok) (hn : 1 ≤ c.n) {x : Str} {a : Addr} {ys : List (List UInt8)} {p1 p3 p4 p5 p6 p7 : Pos} {kk : Nat} {b : Nat} (hg : nsIn (K c.w.params) mainGlobals x = some (some (.ref a))) (hT : ∀ σ, Has c loc σ a (.tup (ys.map .bytes))) (hl : Look loc (S "deck") (.ref s.deck)) (k1 : c.env.kindOf x = some .globalImplicit) (k1' : (x == ("__debug__" : Str)) = false) (k2 : c.env.kindOf "_law_draw" = some .globalImplicit) (k3 : c.env.kindOf "deck" = some .local) (I : Inv E s σ) (hk : s.k ≤ 1000) (hcs : s.cs.length ≤ 1000) (hb : 0 < b) (hb9 : b ≤ ys.length) (hb10 : b ≤ 10) (h : ∀ t σ', t ∈ ys → Inv E { s with k := s.k + 1 } σ' → Q (.bytes t) σ') :
    WE c loc σ (eval (.Subscript (.Name x p1) (.Call (.Name (S "_law_draw") p3) [.Name (S "deck") p4, .Constant (.int b) kk p5] [] p6) p7) c.env) Q X := by
  refine E_sub ?_
  refine E_global C ?_ hg k1 k1'
  refine E_draw C hn hl k2 k3 I hk hcs (by omega) fun i σ' h0 h1 I' => ?_
  have hi : i.toNat < ys.length := by omega
  refine i_tup (v := .bytes ys[i.toNat]) (hT σ') h0 (by omega) (by rw [List.getElem?_map, List.getElem?_eq_getElem hi]; rfl) ?_
  exact h _ σ' (List.getElem_mem hi) I'
theorem at425 (P : Params) : (K P).lookup 425 = some (tupB [(#[114], 732), (#[119], 733), (#[97], 734), (#[114, 43], 735), (#[119, 43], 736), (#[97, 43], 737), (#[113], 738)]) := by kernel_rfl
theorem has425 (C : c.Ok) : Has c loc σ 425 (.tup (ways7.map .bytes)) := Has.fix C (at425 _) (tupB_rep _ rfl)
noncomputable def texts5 : List (List UInt8) := [[120], [121, 122], [], [0, 255, 10], [49, 50, 51, 52, 53]]
theorem at426 (P : Params) : (K P).lookup 426 = some (tupB [(#[120], 740), (#[121, 122], 741), (#[], 742), (#[0, 255, 10], 743), (#[49, 50, 51, 52, 53], 744)]) := by kernel_rfl
theorem has426 (C : c.Ok) : Has c loc σ 426 (.tup (texts5.map .bytes)) := Has.fix C (at426 _) (tupB_rep _ rfl)
theorem texts_len : ∀ t ∈ texts5, t.length ≤ 5 := by decide +kernel
theorem names_len : ∀ t ∈ names9, t.length ≤ 256 := by decide +kernel
theorem names_plain : ∀ t ∈ names9, (plain t).length ≤ 256 ∧ (plain t) ∉ [[37, 115, 116, 100, 105, 110], [37, 115, 116, 100, 111, 117, 116], [37, 115, 116, 100, 101, 114, 114]] ∧ (cut none (some 1) (plain t) == [37]) = (plain t == [37, 120]) := by decide +kernel
theorem names_NameOk {t : List UInt8} (h : t ∈ names9) : NameOk (plain t) := let ⟨h1, h2, h3⟩ := names_plain t h; ⟨h1, h2, h3⟩
/- what the law has under a row -/
theorem has_ok (C : c.Ok) (hH : c.A.handled = none) (hn : 1 ≤ c.n) (I : Inv E s σ) {r : Row} (hr : r ∈ s.rows) (ho : r.of < s.octets.length) (hol : s.octets.length ≤ 1000) (h : Q (.bytes (r.law s)) σ) : CallR c loc σ (.ref 447) [.ref s.own, .ref r.a] Q X := by
  refine call_fn C hH hn (fn447 _) rfl (loc₀ := [(S "own", .ref s.own), (S "row", .ref r.a)]) rfl ?_
  intro H n' A frames fr fix L hn' hH' C' F'
  obtain ⟨hdeck, hcA, hown, hnm, hocA, hrwA, hT, htd, hdk, hopA⟩ := I.all
  have hra : σ r.a = some (rowO r) := I.row hr (by simp [rowCells])
  unfold Row.law at h
  refine S_last ?_
  repeat' walk_at "v"
  refine ite_of (fun hz => ?_) (fun hz => ?_)
  · repeat' walk_at "v"
    rw [if_pos (show wayR r.way = true from hz)] at h
    exact h
  · repeat' walk_at "v"
    rw [if_neg (by unfold wayR; rw [hz]; exact Bool.false_ne_true)] at h
    refine i_list (xs := s.octets.map .bytes) (v := .bytes s.octets[r.of]) hocA (by omega) (by omega) (by simp [ho]) ?_
    rw [List.getD_eq_getElem?_getD, List.getElem?_eq_getElem ho] at h
    exact h
end
section
variable {c : Cx} {loc : Loc} {σ : MHeap} {α β : Type} {X : MV → MHeap → Prop} {Q : MV → MHeap → Prop} {h h' : Heap} {a d : Addr} {Kt : MF → Loc → MHeap → Prop} {B : Bool → MHeap → Prop}
variable {E : Cells} {s : St}
noncomputable def rowsAt (g : Row → Row) (i : Nat) (rows : List Row) : List Row := (rows.take i).map g ++ rows.drop i
theorem rowsAt_zero (g : Row → Row) (rows : List Row) : rowsAt g 0 rows = rows := by simp [rowsAt]
theorem rowsAt_len (g : Row → Row) (rows : List Row) : rowsAt g rows.length rows = rows.map g := by simp [rowsAt]
theorem rowsAt_at {g : Row → Row} {i : Nat} {rows : List Row} {r : Row} (h : rows[i]? = some r) : rowsAt g i rows = (rows.take i).map g ++ r :: rows.drop (i + 1) := by
  obtain ⟨hi, e⟩ := List.getElem?_eq_some_iff.mp h
  unfold rowsAt
  rw [List.drop_eq_getElem_cons hi, e]
theorem rowsAt_succ {g : Row → Row} {i : Nat} {rows : List Row} {r : Row} (h : rows[i]? = some r) : rowsAt g (i + 1) rows = (rows.take i).map g ++ g r :: rows.drop (i + 1) := by
  unfold rowsAt
  rw [take_at h, List.map_append, List.append_assoc]
  rfl
theorem rowsAt_map {γ : Type} {g : Row → Row} (f : Row → γ) (hg : ∀ r, f (g r) = f r) (i : Nat) (rows : List Row) : (rowsAt g i rows).map f = rows.map f := by
  unfold rowsAt
  rw [List.map_append, List.map_map, show (List.take i rows).map (f ∘ g) = (List.take i rows).map f from List.map_congr_left fun r _ => hg r, ← List.map_append, List.take_append_drop]
noncomputable def Row.shut (r : Row) : Row := { r with op := false }
noncomputable def shutIf (n : Nat) (r : Row) : Row := if (r.of == n && !wayR r.way) = true then r.shut else r
theorem shut_ok (C : c.Ok) (hH : c.A.handled = none) (hn : 1 ≤ c.n) (I : Inv E s σ) {n : Nat} (hrl : s.rows.length ≤ 1000) (h : ∀ σ', Inv E { s with rows := s.rows.map (shutIf n) } σ' → Q .none σ') : CallR c loc σ (.ref 454) [.ref s.own, .int n] Q X := by
  refine call_fn C hH hn (fn454 _) rfl (loc₀ := [(S "own", .ref s.own), (S "number", .int n)]) rfl ?_
  intro H n' A frames fr fix L hn' hH' C' F'
  obtain ⟨hdeck, hcA, hown, hnm, hocA, hrwA, hT, htd, hdk, hopA⟩ := I.all
  refine S_last ?_
  refine S_forF C' hH' [(S "own", .ref s.own), (S "number", .int n)] (fun _ hp => hp) (noName (by kernel_rfl)) ?_ (by kernel_rfl) (fun v => by kernel_rfl)
  repeat' walk_at "v"
  have hga : ∀ r, (shutIf n r).a = r.a := fun r => by unfold shutIf; split <;> rfl
  refine ⟨_, _, _, fun i σ' => Inv E { s with rows := rowsAt (shutIf n) i s.rows } σ', It_list (xs := s.rows.map fun r => .ref r.a) (by rw [List.length_map]; omega), (I : Inv E { s with rows := rowsAt (shutIf n) 0 s.rows } σ), fun i σ' J => ?_, fun i y σ' hy J It ob Cp => ?_, fun σ' J l hl => ?_⟩
  · have := J.all.2.2.2.2.2.1
    rw [← rowsAt_map (g := shutIf n) (fun r => MV.ref r.a) (fun r => by rw [hga]) i]
    exact this
  · obtain ⟨r, hr, rfl⟩ := map_at2 hy
    have e1 := rowsAt_at (g := shutIf n) hr
    have e2 := rowsAt_succ (g := shutIf n) hr
    have hra : σ' r.a = some (rowO r) := J.row (r := r) (by show r ∈ rowsAt (shutIf n) i s.rows; rw [e1]; simp) (by simp [rowCells])
    have J' := J.setrowA (r := r) (r' := r.shut) e1 rfl rfl rfl rfl rfl
    refine S_last ?_
    repeat' walk_at "v"
    have fin : (r.of == n && !wayR r.way) = false → Inv E { s with rows := rowsAt (shutIf n) (i + 1) s.rows } σ' := fun e => by
      rw [e2, show shutIf n r = r by unfold shutIf; rw [e]; rfl, ← e1]
      exact J
    cases hz : ((r.of : Int) == (n : Int))
    · have hz' : (r.of == n) = false := by
        rw [beq_eq_false_iff_ne] at hz ⊢
        omega
      refine ite_f ?_
      refine ite_f ?_
      refine S_nil ?_
      exact ⟨fun p hp => .tail _ hp, fin (by rw [hz']; rfl)⟩
    · have hz' : (r.of == n) = true := by
        rw [beq_iff_eq] at hz ⊢
        omega
      refine ite_t ?_
      repeat' walk_at "v"
      cases hw : (r.way != [114])
      · refine ite_f ?_
        refine ite_f ?_
        refine S_nil ?_
        exact ⟨fun p hp => .tail _ hp, fin (by rw [hz', show wayR r.way = true by simpa [wayR] using hw]; rfl)⟩
      · refine ite_t ?_
        have hra2 : σ' r.a = some (.sd [(S "file", .ref r.f), (S "way", .bytes r.way), (S "of", .int r.of), (S "was", .bytes r.was), (S "is_open", .bool r.op), (S "at", .int r.at_)]) := hra
        repeat' walk_at "w"
        refine ⟨fun p hp => .tail _ hp, ?_⟩
        show Inv E { s with rows := rowsAt (shutIf n) (i + 1) s.rows } _
        rw [e2, show shutIf n r = r.shut by unfold shutIf; rw [hz', show wayR r.way = false by simpa [wayR] using hw]; rfl]
        exact J'
  · rw [List.length_map, rowsAt_len] at J
    exact h σ' J
theorem no_position : ∀ num name cr cw op place last k v a, (k = S "octets" ∨ k = S "disk") → ((sdL (fO num name cr cw op place last k v a)).all fun p => !decide (p.1 = S "position")) = true := by
  rintro num name cr cw op place last k v a (rfl | rfl) <;> kernel_rfl
theorem meth_r (C : c.Ok) (I : Inv E s σ) {r : Row} (hr : r ∈ s.rows) {nm : Str} {f1 f2 : Addr} (h1 : methOk (K c.w.params) 226 f1 nm = true) (h2 : methOk (K c.w.params) 280 f2 nm = true) (hno : ∀ num name cr cw op place last k v a, (k = S "octets" ∨ k = S "disk") → ((sdL (fO num name cr cw op place last k v a)).all fun p => !decide (p.1 = nm)) = true)
    (h3 : keepOk (K c.w.params) (.ref f1) = true) (h4 : keepOk (K c.w.params) (.ref f2) = true) : MethR c loc σ (.ref r.f) nm (.ref (fileM r f1 f2)) [.ref r.f] ∧ keepOk (K c.w.params) (.ref (fileM r f1 f2)) = true := by
  have hf : σ r.f = some (.inst (fileC r) r.d) := I.row hr (by simp [rowCells])
  have hd : σ r.d = some (fileO s.dk r) := I.row hr (by simp [rowCells])
  unfold fileO at hd
  unfold fileM
  cases hw : wayR r.way
  · have e1 : fileC r = 280 := if_neg (by rw [hw]; exact Bool.false_ne_true)
    rw [if_neg (by rw [hw]; exact Bool.false_ne_true)] at hd
    rw [e1] at hf
    rw [if_neg Bool.false_ne_true]
    exact ⟨m_inst C hf hd h2 (hno _ _ _ _ _ _ _ _ _ _ (.inr rfl)), h4⟩
  · have e1 : fileC r = 226 := if_pos hw
    rw [if_pos hw] at hd
    rw [e1] at hf
    rw [if_pos rfl]
    exact ⟨m_inst C hf hd h1 (hno _ _ _ _ _ _ _ _ _ _ (.inl rfl)), h3⟩
theorem stands_ok (C : c.Ok) (hH : c.A.handled = none) (hn : 4 ≤ c.n) (I : Inv E s σ) {r : Row} (hr : r ∈ s.rows) (h1 : r.fop = true → Q (.int r.fat) σ) (h2 : r.fop = false → ∀ σ', Inv E s σ' → Q (.bytes b_ioerror) σ') : CallR c loc σ (.ref 501) [.ref r.f] Q X := by
  refine call_fn C hH (by omega) (fn501 _) rfl (loc₀ := [(S "file", .ref r.f)]) rfl ?_
  intro H n' A frames fr fix L hn' hH' C' F'
  have hn3 : 3 ≤ n' := by omega
  refine S_last ?_
  refine try_core (XB := fun told σ' => told = .bytes b_ioerror ∧ Inv E s σ' ∧ r.fop = false) (locE := [(S "file", .ref r.f)]) (loc' := [(S "file", .ref r.f)]) C' F' hH' (TB_ret (Kt := fun fl _ σ' => Q (retOf fl) σ') ?_) (by walk_at "wipe") ?_ (by kernel_rfl) (by kernel_rfl)
  · repeat' walk_at "v"
    obtain ⟨m1, m2⟩ := meth_r (loc := [(S "file", .ref r.f)]) C' I hr (nm := "position") (f1 := 216) (f2 := 270) (by kernel_rfl) (by kernel_rfl) no_position (by kernel_rfl) (by kernel_rfl)
    refine ⟨_, _, m2, m1, ?_⟩
    refine pos_row C' hH' hn3 I hr h1 fun ho e he => ⟨rfl, I.garbage he, ho⟩
  · rintro told σ' a ed A' ⟨rfl, I', ho⟩ ha hed c' Cc
    have hne : ed ≠ a := ne_fresh hed ha
    repeat' walk_at "w"
    refine a_toldR Cc (upd_self _ _ _) (at_ne hed hne) rfl ?_
    exact h2 ho _ (I'.garbage ha)
end
section
variable {c : Cx} {loc : Loc} {σ : MHeap} {α β : Type} {X : MV → MHeap → Prop} {Q : MV → MHeap → Prop} {h h' : Heap} {a d : Addr} {Kt : MF → Loc → MHeap → Prop} {B : Bool → MHeap → Prop}
variable {E : Cells} {s : St}
theorem call_right (C : c.Ok) (hH : c.A.handled = none) (hn : 1 ≤ c.n) {own T : Addr}
    (h : ∀ H n' A frames fr fix L, n' + 1 = c.n → A.handled = none → let c' : Cx := ⟨c.w, H, n', A, frames, fr, fix, callEnvC (fnOf (fname (fdef 29)) (S "_law_is_right") (fargs (fdef 29)) (fbody (fdef 29)) (fscope (fdef 29)) .none .none .none (.str (S "law_rh0181_01") 724) none (.ref 505) .none) L 506⟩; c'.Ok → c'.Fun → cellAt c' (L + 1) (.ref own) → cellAt c' (L + 2) (.ref T) →
      WS c' [] σ (fbody (fdef 29)) (fun fl _ σ' => Q (retOf fl) σ') X) : CallR c loc σ (.ref 506) [.ref own, .ref T] Q X := by
  refine c_defC C (n := c.n - 1) (by omega) (f := 506) (names := [S "own", S "table"]) (loc₀ := []) (cs := [(S "own", 1, .ref own), (S "table", 2, .ref T)]) (oc := .type "function") (od := none) (osl := #[]) (name := fname (fdef 29)) (qual := S "_law_is_right") (params := fargs (fdef 29)) (body := fbody (fdef 29)) (scope := fscope (fdef 29)) (dV := .none) (kV := .none) (doc := .none) (an := none) (ct := .none) (cdv := .ref 505) (pm := .str (S "law_rh0181_01") 724) (by kernel_rfl) (by kernel_rfl) (fun us e => by obtain ⟨a0, a1, rfl⟩ := len2 e; rfl) rfl ?_ ?_ ?_ (by kernel_rfl) (by kernel_rfl) (by kernel_rfl) ?_
  · intro L; kernel_rfl
  · intro L us hu p hp
    cases hp
  · intro L us hu p hp
    obtain ⟨u, v, rfl⟩ : ∃ u v, us = [u, v] := two_of (by have := congrArg List.length hu; simpa using this)
    simp only [List.map_cons, List.map_nil, List.cons.injEq, and_true] at hu
    rcases List.mem_cons.mp hp with rfl | hp
    · exact ⟨Nat.one_pos, by kernel_rfl, u, by kernel_rfl, hu.1⟩
    · rcases List.mem_singleton.mp hp with rfl
      exact ⟨Nat.two_pos, by kernel_rfl, v, by kernel_rfl, hu.2⟩
  · intro H n' A frames fr fix L h1 h2 c' C' F' hc
    exact h H n' A frames fr fix L (by omega) (h2.trans hH) C' F' (hc _ (.head _)) (hc _ (.tail _ (.head _)))
theorem WE.shut {t : Sem Value} {Q : MV → MHeap → Prop} (h : WE c loc σ t (fun v σ' => ∃ a ob o, σ' a = some (.raw ob) ∧ Rep c.w o ob ∧ Q v (upd σ' a o)) X) : WE c loc σ t Q X := WT.shut h
theorem WE.open {t : Sem Value} {Q : MV → MHeap → Prop} {o : MObj} (q : σ a = some o) (h : ∀ ob, Rep c.w o ob → WE c loc (upd σ a (.raw ob)) t Q X) : WE c loc σ t Q X := WT.open q h
noncomputable def St.now (s : St) : List (List UInt8 × List UInt8) := s.names.map fun p => (p.1, s.octets.getD p.2 [])
noncomputable def St.val (s : St) (t : List UInt8) : MV := (getK s.disk (plain t)).elim .none fun o => .int o.length
theorem right_ok (C : c.Ok) (hH : c.A.handled = none) (hn : 6 ≤ c.n) (I : Inv E s σ) {t : Nat} (G : Good t s) (h : ∀ σ', Inv E s σ' → Q (.bool true) σ') : CallR c loc σ (.ref 506) [.ref s.own, .ref s.T] Q X := by
  refine call_right C hH (by omega) ?_
  intro H n' A frames fr fix L hn' hH' c' C' F' hco hcT
  have hn5 : 5 ≤ n' := by omega
  have htl := G.tle
  have hnl := G.nl
  have hocl := G.ocl
  obtain ⟨hdeck, hcA, hown, hnm, hocA, hrwA, hT, htd, hdk, hopA⟩ := I.all
  refine S_join (K1 := fun l σ' => Inv E s σ') ?_ fun l σ1 I1 => WS_weak (loc' := []) ?_ nofun
  · refine S_if ?_
    refine B_compare ?_ (by kernel_rfl)
    refine E_attrR ?_ (by kernel_rfl)
    refine E_cell C' hcT ?_ (by kernel_rfl) (by kernel_rfl) (by kernel_rfl)
    repeat' walk_at "v"
    refine WE.open hnm fun ob R => WE.shut ?_
    have hown' : upd σ s.nm (.raw ob) s.own = some (ownO s) := at_ne hown (ne_of hown hnm nofun)
    refine E_comp C' hH' (cl := [(S "own", L + 1)]) (by kernel_rfl) (by kernel_rfl) (by kernel_rfl) (by kernel_rfl) (by kernel_rfl) (fun v => by kernel_rfl) ?_
    refine E_sub ?_
    refine E_cell C' hco ?_ (by kernel_rfl) (by kernel_rfl) (by kernel_rfl)
    repeat' walk_at "v"
    obtain ⟨st, It⟩ := It_bd (a := s.nm) C' R
    have hnl' : (s.names.map fun p => MV.bytes p.1).length = s.names.length := List.length_map _
    have hmm : ((s.names.map fun p => (p.1, MV.int p.2)).map fun p => MV.bytes p.1) = s.names.map fun p => MV.bytes p.1 := by rw [List.map_map]; rfl
    rw [hmm] at It
    refine ⟨_, _, _, fun i ys σ' => ∃ ts : List Addr, ys = ts.map .ref ∧ ts.length = i ∧ i ≤ s.names.length ∧ σ' s.nm = some (.raw ob) ∧ Inv E s (upd σ' s.nm (bdN s.names)) ∧ ∀ (j : Nat) (u : Addr) (p : List UInt8 × List UInt8), ts[j]? = some u → s.now[j]? = some p → σ' u = some (.tup [.bytes p.1, .bytes p.2]), It, ⟨[], rfl, rfl, Nat.zero_le _, upd_self _ _ _, ?_, fun j u p hj => by simp at hj⟩, fun i ys σ' ⟨_, _, _, _, j, _⟩ => j, fun i ys σ' ⟨ts, e1, e2, e3, _⟩ => by rw [e1, List.length_map]; omega, fun i y ys σ' hy J fr' fix' D hfx Cc => ?_, fun ys σ' J => ?_⟩
    · rw [upd_upd]
      exact I.weak fun b o q => by
        by_cases e : b = s.nm
        · rw [e] at q ⊢; rw [hnm] at q; cases q; exact upd_self _ _ _
        · exact at_ne q e
    · obtain ⟨ts, rfl, hts, hle, hraw, I2, htup⟩ := J
      obtain ⟨p, hp, rfl⟩ := map_at2 hy
      have hpm := List.mem_of_getElem? hp
      have hlt := G.nlt p hpm
      have hpi : i < s.names.length := (List.getElem?_eq_some_iff.mp hp).1
      have get : ∀ {b o}, (upd σ' s.nm (bdN s.names)) b = some o → b ≠ s.nm → σ' b = some o := fun q e => by rw [upd_ne e] at q; exact q
      have hnm2 := upd_self σ' s.nm (bdN s.names)
      have hown2 := get I2.all.2.2.1 (ne_of I2.all.2.2.1 hnm2 nofun)
      have hoc2 := get I2.all.2.2.2.2.1 (ne_of I2.all.2.2.2.2.1 hnm2 nofun)
      refine I_nil ?_
      refine ite_t ?_
      refine E_tuple Cc ?_
      repeat' walk_at "v"
      refine E_cell Cc (cellAt.up hco hfx) ?_ (by kernel_rfl) (by kernel_rfl) (by kernel_rfl)
      repeat' walk_at "v"
      refine E_cell Cc (cellAt.up hco hfx) ?_ (by kernel_rfl) (by kernel_rfl) (by kernel_rfl)
      repeat' walk_at "v"
      refine i_bdR (es := s.names.map fun (p : List UInt8 × Nat) => (p.1, MV.int (p.2 : Int))) (v := .int p.2) hraw R (by rw [getK_map (g := fun k : Nat => MV.int k), getK_mem G.nk hpm]; rfl) ?_
      refine i_list (xs := s.octets.map .bytes) (v := .bytes s.octets[p.2]) hoc2 (by omega) (by omega) (by simp [hlt]) ?_
      repeat' walk_at "v"
      refine ⟨leB (by kernel_rfl), fun r hr => ⟨ts ++ [r], by rw [List.map_append]; rfl, by rw [List.length_append, hts]; rfl, hpi, ?_, ?_, ?_⟩⟩
      · exact at_ne hraw (ne_fresh hraw hr)
      · have hrn : s.nm ≠ r := ne_fresh hraw hr
        rw [upd_comm hrn.symm]
        exact I2.garbage (by rw [upd_ne hrn.symm]; exact hr)
      · intro j u q hj hq
        by_cases hji : j < ts.length
        · rw [List.getElem?_append_left hji] at hj
          have := htup j u q hj hq
          exact at_ne this (ne_fresh this hr)
        · rw [List.getElem?_append_right (by omega)] at hj
          have hj0 : j = ts.length := by
            have := (List.getElem?_eq_some_iff.mp hj).1
            simp at this
            omega
          subst hj0
          rw [Nat.sub_self] at hj
          cases hj
          rw [hts] at hq
          unfold St.now at hq
          rw [List.getElem?_map, hp] at hq
          cases hq
          rw [upd_self]
          show some (MObj.tup [.bytes p.1, .bytes s.octets[p.2]]) = some (.tup [.bytes p.1, .bytes (s.octets.getD p.2 [])])
          rw [List.getD_eq_getElem?_getD, List.getElem?_eq_getElem hlt]
          rfl
    · obtain ⟨ts, rfl, hts, hle, hraw, I2, htup⟩ := J
      rw [hnl'] at hts
      intro r hr
      have hrn : s.nm ≠ r := ne_fresh hraw hr
      refine ⟨s.nm, ob, _, at_ne hraw hrn, R, ?_⟩
      repeat' walk_at "v"
      have I3 := I2.garbage (x := r) (o := .list (ts.map .ref)) (by rw [upd_ne hrn.symm]; exact hr)
      rw [← upd_comm hrn.symm] at I3
      refine c_dict C' hH' (ts := ts) (es := s.now.map fun p => (p.1, .bytes p.2)) (at_ne (upd_self _ _ _) hrn.symm) (by omega) (by rw [hts, List.length_map]; unfold St.now; rw [List.length_map]) (by unfold St.now; rw [List.map_map, List.map_map]; exact G.nk) ?_ ?_
      · intro j u p hj hp
        rw [List.getElem?_map, Option.map_eq_some_iff] at hp
        obtain ⟨p', hp', rfl⟩ := hp
        have := htup j u p' hj hp'
        exact at_ne (at_ne this (ne_fresh this hr)) (ne_of this hraw nofun)
      · intro r2 hr2
        have I4 := I3.garbage (o := .bd (s.now.map fun p => (p.1, .bytes p.2))) hr2
        have hdk4 := I4.all.2.2.2.2.2.2.2.2.1
        refine o_ne_bd_same C' (es := s.now.map fun p => (p.1, .bytes p.2)) ?_ (upd_self _ _ _) ?_ ?_
        · rw [show s.now = s.disk from G.disk.symm]
          rw [show s.now = s.disk from G.disk.symm] at hdk4
          exact hdk4
        · intro p hp
          obtain ⟨p', _, rfl⟩ := List.mem_map.mp hp
          exact .inr (.inl ⟨_, rfl⟩)
        · repeat' walk_at "v"
          refine S_nil ?_
          exact ⟨rfl, I4⟩
  obtain ⟨hdeck1, hcA1, hown1, hnm1, hocA1, hrwA1, hT1, htd1, hdk1, hopA1⟩ := I1.all
  refine S_join (K1 := fun l σ' => Inv E s σ') ?_ fun l σ2 I2 => WS_weak (loc' := []) ?_ nofun
  · refine S_forF C' hH' [] (fun _ hp => hp) nofun ?_ (by kernel_rfl) (fun v => by kernel_rfl)
    refine E_sub ?_
    refine E_cell C' hco ?_ (by kernel_rfl) (by kernel_rfl) (by kernel_rfl)
    repeat' walk_at "v"
    have hrl := G.rl
    refine ⟨_, _, _, fun i σ' => Inv E s σ', It_list (xs := s.rows.map fun r => .ref r.a) (by rw [List.length_map]; omega), I1, fun i σ' J => J.all.2.2.2.2.2.1, fun i y σ' hy J It ob Cp => ?_, fun σ' J l hl => ⟨rfl, J⟩⟩
    obtain ⟨r, hr, rfl⟩ := map_at2 hy
    have hrm := List.mem_of_getElem? hr
    have hra : σ' r.a = some (rowO r) := J.row hrm (by simp [rowCells])
    have RO := G.rows r hrm
    have hfo := RO.fop
    obtain ⟨Cl, d, cr, k, v, hc, hf, hd⟩ := J.file hrm
    refine S_join (K1 := fun l σ'' => l = [(S "row", .ref r.a)] ∧ Inv E s σ'') ?_ ?_
    · rcases hc with rfl | rfl <;>
      · refine S_if ?_
        repeat' walk_at "v"
        rw [hfo, show (r.op != r.op) = false by simp]
        refine ite_f ?_
        refine S_nil ?_
        exact ⟨rfl, rfl, J⟩
    · rintro _ σ'' ⟨rfl, J2⟩
      have hra2 : σ'' r.a = some (rowO r) := J2.row hrm (by simp [rowCells])
      refine S_last ?_
      repeat' walk_at "v"
      refine stands_ok Cp hH' (by show 4 ≤ n'; omega) J2 hrm (fun ho => ?_) (fun ho σ3 J3 => ?_)
      · rw [hfo] at ho
        have hat := RO.at_ ho
        repeat' walk_at "v"
        rw [ho]
        refine ite_t ?_
        repeat' walk_at "v"
        rw [hat, show ((r.at_ : Int) != (r.at_ : Int)) = false by simp]
        refine ite_f ?_
        refine S_nil ?_
        exact ⟨nofun, J2⟩
      · rw [hfo] at ho
        have hra3 : σ3 r.a = some (rowO r) := J3.row hrm (by simp [rowCells])
        repeat' walk_at "v"
        rw [ho]
        refine ite_f ?_
        repeat' walk_at "v"
        refine ite_f ?_
        refine S_nil ?_
        exact ⟨nofun, J3⟩
  obtain ⟨hdeck2, hcA2, hown2, hnm2, hocA2, hrwA2, hT2, htd2, hdk2, hopA2⟩ := I2.all
  have hsz : ∀ o n, getK s.disk n = some o → o.length ≤ 1000 := fun o n ho => by have := G.size n ho; omega
  have tl : ∀ x ∈ names9.take 6, x.length ≤ 1000 := fun x hx => by have := names_len x (List.mem_of_mem_take hx); omega
  have hsix : (names9.take 6).length = 6 := rfl
  refine S_seq ?_
  refine S_comp C' hH' (cl := [(S "table", L + 2)]) (by kernel_rfl) (by kernel_rfl) (by kernel_rfl) (by kernel_rfl) (by kernel_rfl) (fun v => by kernel_rfl) (by kernel_rfl) (by kernel_rfl) ?_
  repeat' walk_at "v"
  refine names_ok C' hH' (by show 1 ≤ n'; omega) fun r hr => ?_
  have I3 := I2.garbage (o := .tup (names9.map .bytes)) hr
  repeat' walk_at "v"
  refine s_tup C' (b := 6) (Has.of (upd_self _ _ _)) (by decide) (by decide) fun r2 hr2 => ?_
  have I4 := I3.push (o := .tup ((names9.map MV.bytes).take 6)) hr2
  refine ⟨_, _, _, fun i ys σ' => σ' = upd (upd σ2 r (.tup (names9.map .bytes))) r2 (.tup ((names9.map MV.bytes).take 6)) ∧ ys = ((names9.take 6).take i).map s.val, It_tup (xs := (names9.take 6).map .bytes), ⟨rfl, rfl⟩, fun i ys σ' ⟨j, _⟩ loc => ?_, fun i ys σ' ⟨_, j⟩ => ?_, fun i y ys σ' hy J fr' fix' D hfx Cc => ?_, fun ys σ' J r3 hr3 => ?_⟩
  · rw [j]; exact Has.of (upd_self _ _ _)
  · rw [j, List.length_map]
    exact Nat.le_trans (List.length_take_le' i (names9.take 6)) (by decide)
  · obtain ⟨rfl, rfl⟩ := J
    obtain ⟨x, hx, rfl⟩ := map_at2 hy
    have hxm := List.mem_of_getElem? hx
    refine I_nil ?_
    refine ite_t ?_
    repeat' walk_at "v"
    refine E_cell Cc (cellAt.up hcT hfx) ?_ (by kernel_rfl) (by kernel_rfl) (by kernel_rfl)
    have hT4 := I4.all.2.2.2.2.2.2.1
    have htd4 := I4.all.2.2.2.2.2.2.2.1
    refine ⟨_, _, by kernel_rfl, m_inst Cc hT4 htd4 (f := 382) (by kernel_rfl) (by kernel_rfl), ?_⟩
    repeat' walk_at "v"
    refine size_of_ok Cc hH' (by show 2 ≤ n'; omega) I4 (tl x hxm) (fun o ho => hsz o _ ho) ?_
    exact ⟨rfl, by rw [take_at hx, List.map_append]; rfl⟩
  · obtain ⟨rfl, rfl⟩ := J
    have I5 := I4.push (o := .list (((names9.take 6).take ((names9.take 6).map MV.bytes).length).map s.val)) hr3
    refine ⟨_, .nil, ?_⟩
    refine K_next ?_
    refine S_last ?_
    refine S_ret ?_
    refine E_compare ?_ (by kernel_rfl)
    refine E_local C' .head ?_ (by kernel_rfl) (by kernel_rfl)
    refine E_comp C' hH' (cl := [(S "table", L + 2), (S "own", L + 1)]) (by kernel_rfl) (by kernel_rfl) (by kernel_rfl) (by kernel_rfl) (by kernel_rfl) (fun v => by kernel_rfl) ?_
    repeat' walk_at "v"
    refine names_ok C' hH' (by show 1 ≤ n'; omega) fun r4 hr4 => ?_
    have I6 := I5.garbage (o := .tup (names9.map .bytes)) hr4
    repeat' walk_at "v"
    refine s_tup C' (b := 6) (Has.of (upd_self _ _ _)) (by decide) (by decide) fun r5 hr5 => ?_
    have I7 := I6.push (o := .tup ((names9.map MV.bytes).take 6)) hr5
    refine ⟨_, _, _, fun i ys σ' => Inv ((r5, .tup ((names9.map MV.bytes).take 6)) :: (r3, .list (((names9.take 6).take ((names9.take 6).map MV.bytes).length).map s.val)) :: (r2, .tup ((names9.map MV.bytes).take 6)) :: E) s σ' ∧ ys = ((names9.take 6).take i).map s.val, It_tup (xs := (names9.take 6).map .bytes), ⟨I7, rfl⟩, fun i ys σ' ⟨j, _⟩ loc => Has.of (j.frame (.head _)), fun i ys σ' ⟨_, j⟩ => ?_, fun i y ys σ' hy J fr' fix' D hfx Cc => ?_, fun ys σ' J r6 hr6 => ?_⟩
    · rw [j, List.length_map]
      exact Nat.le_trans (List.length_take_le' i (names9.take 6)) (by decide)
    · obtain ⟨J, rfl⟩ := J
      obtain ⟨x, hx, rfl⟩ := map_at2 hy
      have hxm := List.mem_of_getElem? hx
      obtain ⟨hdeck4, hcA4, hown4, hnm4, hocA4, hrwA4, hT4, htd4, hdk4, hopA4⟩ := J.all
      have hlk := G.look (plain x)
      have e1 : ((names9.take 6).take (i + 1)).map s.val = ((names9.take 6).take i).map s.val ++ [s.val x] := by rw [take_at hx, List.map_append]; rfl
      refine I_nil ?_
      refine ite_t ?_
      repeat' walk_at "v"
      refine plain_ok Cc hH' (by show 1 ≤ n'; omega) (tl x hxm) ?_
      refine E_sub ?_
      refine E_cell Cc (cellAt.up hco hfx) ?_ (by kernel_rfl) (by kernel_rfl) (by kernel_rfl)
      repeat' walk_at "v"
      refine o_in_bd Cc (es := s.names.map fun (p : List UInt8 × Nat) => (p.1, MV.int (p.2 : Int))) hnm4 ?_
      rw [getK_map (g := fun k : Nat => MV.int k), Option.isSome_map]
      repeat' walk_at "v"
      cases hg : getK s.names (plain x) with
      | none =>
        rw [hg] at hlk
        refine ite_f ?_
        repeat' walk_at "v"
        refine ⟨J, ?_⟩
        rw [e1]
        unfold St.val
        rw [hlk]; rfl
      | some kk =>
        rw [hg] at hlk
        refine ite_t ?_
        repeat' walk_at "v"
        refine E_cell Cc (cellAt.up hcT hfx) ?_ (by kernel_rfl) (by kernel_rfl) (by kernel_rfl)
        repeat' walk_at "v"
        refine plain_ok Cc hH' (by show 1 ≤ n'; omega) (tl x hxm) ?_
        refine i_bd (es := s.disk.map fun (p : List UInt8 × List UInt8) => (p.1, MV.bytes p.2)) (v := .bytes (s.octets.getD kk [])) hdk4 (by rw [getK_map, hlk]; rfl) ?_
        repeat' walk_at "v"
        refine c_len_bytes (Nat.le_trans (hsz _ _ hlk) (by decide)) ?_
        refine ⟨J, ?_⟩
        rw [e1]
        unfold St.val
        rw [hlk]; rfl
    · obtain ⟨J, rfl⟩ := J
      have I8 := J.push (o := .list (((names9.take 6).take ((names9.take 6).map MV.bytes).length).map s.val)) hr6
      refine o_eq_list_same C' (I8.frame (.tail _ (.tail _ (.head _)))) (I8.frame (.head _)) (fun p hp => ?_) ?_
      · obtain ⟨x, _, rfl⟩ := List.mem_map.mp hp
        unfold St.val
        cases getK s.disk (plain x) with
        | none => exact .inr (.inr rfl)
        | some o => exact .inl ⟨_, rfl⟩
      · exact h _ I8.pop.pop.pop.pop
end
section
variable {c : Cx} {loc : Loc} {σ : MHeap} {α β : Type} {X : MV → MHeap → Prop} {Q : MV → MHeap → Prop} {h h' : Heap} {a d : Addr} {Kt : MF → Loc → MHeap → Prop} {B : Bool → MHeap → Prop}
variable {E : Cells} {s : St} {t : Nat}
theorem RowOk.up {oc : List (List UInt8)} {nm : List (List UInt8 × Nat)} {r : Row} (R : RowOk t oc nm r) : RowOk (t + 1) oc nm r :=
  ⟨R.way, R.fop, R.at_, Nat.le_trans R.was (by omega), R.of, R.rd, R.wr⟩
theorem Good.up (G : Good t s) (ht : t + 1 ≤ 15) (k : Nat) : Good (t + 1) { s with k := k } :=
  ⟨ht, G.cs, G.disk, G.nk, G.nv, G.nlt, fun o ho => Nat.le_trans (G.oc o ho) (by omega), Nat.le_trans G.ocl (by omega), Nat.le_trans G.nl (by omega), fun r hr => (G.rows r hr).up, Nat.le_trans G.rl (by omega), G.opn, G.ops, G.opa, Nat.le_trans G.opl (by omega)⟩
theorem Good.setk (G : Good t s) (k : Nat) : Good t { s with k := k } :=
  ⟨G.tle, G.cs, G.disk, G.nk, G.nv, G.nlt, G.oc, G.ocl, G.nl, G.rows, G.rl, G.opn, G.ops, G.opa, G.opl⟩
theorem mem_mid {γ : Type} {R1 R2 : List γ} {r x : γ} (h : x ∈ R1 ++ r :: R2) : x = r ∨ ∀ y : γ, x ∈ R1 ++ y :: R2 := by
  rcases List.mem_append.mp h with h | h
  · exact .inr fun y => List.mem_append_left _ h
  · rcases List.mem_cons.mp h with h | h
    · exact .inl h
    · exact .inr fun y => List.mem_append_right _ (.tail _ h)
theorem Good.row (G : Good t s) {R1 R2 : List Row} {r r' : Row} (hr : s.rows = R1 ++ r :: R2) (hf : r'.f = r.f) (hop : r'.op = true → r.op = true) (hok : RowOk t s.octets s.names r') : Good t { s with rows := R1 ++ r' :: R2 } := by
  have hfs : (R1 ++ r' :: R2).map (·.f) = s.rows.map (·.f) := by rw [hr]; simp [hf]
  refine ⟨G.tle, G.cs, G.disk, G.nk, G.nv, G.nlt, G.oc, G.ocl, G.nl, fun x hx => ?_, ?_, G.opn, fun x hx => ?_, fun x hx ho => ?_, G.opl⟩
  · rcases mem_mid hx with rfl | hx
    · exact hok
    · exact G.rows x (hr ▸ hx r)
  · have := G.rl
    rw [hr] at this
    simpa using this
  · show x ∈ (R1 ++ r' :: R2).map (·.f)
    rw [hfs]
    exact G.ops x hx
  · rcases mem_mid hx with rfl | hx
    · have := G.opa r (by rw [hr]; simp) (hop ho)
      rw [hf]
      exact this
    · exact G.opa x (hr ▸ hx r) ho
theorem splice_ge {k : Nat} {o w : List UInt8} (h : k ≤ w.length) : w.length ≤ (splice k o w).length := by rw [splice_len h]; omega
theorem Good.wrote (G : Good t s) (ht : t + 1 ≤ 15) {R1 R2 : List Row} {r r' : Row} (hr : s.rows = R1 ++ r :: R2) (ho : r.op = true) (hw : wayR r.way = false) {o : List UInt8} (hol : o.length ≤ 5) (e : r' = { r with at_ := r.at_ + o.length, fat := r.at_ + o.length, place := r'.place }) :
    Good (t + 1) { s with octets := s.octets.set r.of (splice r.at_ o (s.octets.getD r.of [])), disk := putK s.disk r.name (splice r.at_ o (s.octets.getD r.of [])), rows := R1 ++ r' :: R2 } := by
  have hrm : r ∈ s.rows := by rw [hr]; simp
  have R := G.rows r hrm
  obtain ⟨hin, hat⟩ := R.wr hw ho
  have hlt := R.of
  have hlen := splice_len (o := o) hat
  have hge := splice_ge (o := o) hat
  have hoc := getD_le G.oc r.of
  have hf : r'.f = r.f := by rw [e]
  have hfs : (R1 ++ r' :: R2).map (·.f) = s.rows.map (·.f) := by rw [hr]; simp [hf]
  have hmono : ∀ j, (s.octets.getD j []).length ≤ ((s.octets.set r.of (splice r.at_ o (s.octets.getD r.of []))).getD j []).length := fun j => by
    rw [getD_set hlt]
    split
    · rename_i h; rw [h]; exact hge
    · exact Nat.le_refl _
  refine ⟨ht, G.cs, ?_, G.nk, G.nv, fun p hp => by rw [List.length_set]; exact G.nlt p hp, fun x hx => ?_, by rw [List.length_set]; exact Nat.le_trans G.ocl (by omega), Nat.le_trans G.nl (by omega), fun x hx => ?_, ?_, G.opn, fun x hx => ?_, fun x hx hxo => ?_, Nat.le_trans G.opl (by omega)⟩
  · show putK s.disk r.name _ = _
    rw [G.disk]
    exact (disk_set G.nk G.nv hin hlt).symm
  · rcases List.mem_or_eq_of_mem_set hx with hx | rfl
    · exact Nat.le_trans (G.oc x hx) (by omega)
    · rw [hlen]; omega
  · rcases mem_mid hx with rfl | hx
    · rw [e]
      refine ⟨R.way, R.fop, fun _ => rfl, Nat.le_trans R.was (by omega), by rw [List.length_set]; exact R.of, fun h => ?_, fun _ _ => ⟨hin, ?_⟩⟩
      · rw [hw] at h; cases h
      · show r.at_ + o.length ≤ _
        rw [getD_set hlt, if_pos rfl, hlen]
        omega
    · have R' := (G.rows x (hr ▸ hx r)).up
      exact ⟨R'.way, R'.fop, R'.at_, R'.was, by rw [List.length_set]; exact R'.of, R'.rd, fun h1 h2 => ⟨(R'.wr h1 h2).1, Nat.le_trans (R'.wr h1 h2).2 (hmono _)⟩⟩
  · have := G.rl
    rw [hr] at this
    simp at this
    simp
    omega
  · show x ∈ (R1 ++ r' :: R2).map (·.f)
    rw [hfs]
    exact G.ops x hx
  · rcases mem_mid hx with rfl | hx
    · rw [hf]
      exact G.opa r hrm ho
    · exact G.opa x (hr ▸ hx r) hxo
end
section
variable {c : Cx} {loc : Loc} {σ : MHeap} {α β : Type} {X : MV → MHeap → Prop} {Q : MV → MHeap → Prop} {h h' : Heap} {a d : Addr} {Kt : MF → Loc → MHeap → Prop} {B : Bool → MHeap → Prop}
variable {E : Cells} {s : St} {t : Nat}
structure Nxt (t : Nat) (s s' : St) : Prop where
  deck : s'.deck = s.deck
  own : s'.own = s.own
  T : s'.T = s.T
  k : s'.k ≤ s.k + 2
  good : Good (t + 1) s'
theorem no_write : ∀ num name cr cw op place last k v a, (k = S "octets" ∨ k = S "disk") → ((sdL (fO num name cr cw op place last k v a)).all fun p => !decide (p.1 = S "write")) = true := by
  rintro num name cr cw op place last k v a (rfl | rfl) <;> kernel_rfl
theorem Inv.rowAt (I : Inv E s σ) {r : Row} (hr : r ∈ s.rows) : σ r.a = some (rowO r) := I.row hr (by simp [rowCells])
theorem split_mem {γ : Type} {l : List γ} {x : γ} (h : x ∈ l) : ∃ R1 R2, l = R1 ++ x :: R2 := List.append_of_mem h
theorem written_ok (C : c.Ok) (hH : c.A.handled = none) (hn : 6 ≤ c.n) (I : Inv E s σ) (G : Good t s) (ht : t + 1 ≤ 15) (hk : s.k ≤ 500) {r : Row} (hr : r ∈ s.rows) (h : ∀ s' σ', Nxt t s s' → Inv E s' σ' → Q (.bool true) σ') : CallR c loc σ (.ref 466) [.ref s.deck, .ref s.own, .ref r.a] Q X := by
  refine call_fn C hH (by omega) (fn466 _) rfl (loc₀ := [(S "deck", .ref s.deck), (S "own", .ref s.own), (S "row", .ref r.a)]) rfl ?_
  intro H n' A frames fr fix L hn' hH' C' F'
  have hn3 : 3 ≤ n' := by omega
  have hn1 : 1 ≤ n' := by omega
  have hcs := G.cs
  have RO := G.rows r hr
  refine S_seq ?_
  refine S_swap (names := [S "octets", S "due"]) hH' ?_ (by kernel_rfl) (by kernel_rfl)
  refine Args_cons ?_ (by kernel_rfl)
  refine E_pickG (b := 5) (ys := texts5) C' hn1 (g_law_texts _) (fun _ => has426 C') .head (by kernel_rfl) (by kernel_rfl) (by kernel_rfl) (by kernel_rfl) I (by omega) (by omega) (by decide) (by decide) (by decide) fun o σ1 ho I1 => ?_
  have hol := texts_len o ho
  repeat' walk_at "v"
  refine E_list C' ?_
  repeat' walk_at "v"
  refine ⟨leB rfl, fun du hdu => ?_⟩
  repeat' walk_at "v"
  have I2 := I1.push (o := .list []) hdu
  refine ⟨leB (by kernel_rfl), rfl, A_cons fun u hu => A_bind C' hu (by walk_at "wipe") (A_cons fun u hu => A_bind C' hu (by walk_at "wipe") (A_nil ?_) (by kernel_rfl)) (by kernel_rfl)⟩
  refine K_next ?_
  refine S_join (K1 := fun l σ' => l = [(S "octets", .bytes o), (S "due", .ref du), (S "deck", .ref s.deck), (S "own", .ref s.own), (S "row", .ref r.a)] ∧ Inv ((du, .list ((if wayR r.way = true then [b_invalidaccess] else []).map .bytes)) :: E) { s with k := s.k + 1 } σ') ?_ ?_
  · have hra := I2.rowAt hr
    have hd := I2.frame (.head _)
    unfold wayR
    repeat' walk_at "v"
    cases hw : (r.way == [114])
    · refine ite_f ?_
      refine S_nil ?_
      exact ⟨rfl, rfl, I2⟩
    · refine ite_t ?_
      refine S_last ?_
      repeat' walk_at "v"
      refine ⟨_, _, by kernel_rfl, m_append hd, ?_⟩
      repeat' walk_at "v"
      refine c_append hd (by simp) ?_
      exact ⟨rfl, rfl, I2.setE⟩
  rintro _ σ2 ⟨rfl, I3⟩
  refine S_join (K1 := fun l σ' => l = [(S "octets", .bytes o), (S "due", .ref du), (S "deck", .ref s.deck), (S "own", .ref s.own), (S "row", .ref r.a)] ∧ Inv ((du, .list (((if wayR r.way = true then [b_invalidaccess] else []) ++ (if r.op = true then [] else [b_ioerror])).map .bytes)) :: E) { s with k := s.k + 1 } σ') ?_ ?_
  · have hra := I3.rowAt hr
    have hd := I3.frame (.head _)
    repeat' walk_at "v"
    cases hop : r.op
    · refine ite_nt ?_
      refine S_last ?_
      repeat' walk_at "v"
      refine ⟨_, _, by kernel_rfl, m_append hd, ?_⟩
      repeat' walk_at "v"
      refine c_append hd (by split <;> simp) ?_
      refine ⟨rfl, rfl, ?_⟩
      rw [if_neg Bool.false_ne_true, List.map_append]
      exact I3.setE
    · refine ite_nf ?_
      refine S_nil ?_
      refine ⟨rfl, rfl, ?_⟩
      rw [if_pos rfl, List.append_nil]
      exact I3
  rintro _ σ3 ⟨rfl, I4⟩
  refine S_seq ?_
  refine S_if ?_
  refine B_compare ?_ (by kernel_rfl)
  repeat' walk_at "v"
  refine E_list C' ?_
  repeat' walk_at "v"
  refine ⟨leB rfl, fun z hz => ?_⟩
  have hd := I4.frame (.head _)
  have I5 := I4.garbage (o := .list []) hz
  refine o_eq_nil C' (at_ne hd (ne_fresh hd hz)) (upd_self _ _ _) ?_
  by_cases hg : wayR r.way = false ∧ r.op = true
  · obtain ⟨hw, hop⟩ := hg
    have e2 : ((if wayR r.way = true then [b_invalidaccess] else []) ++ (if r.op = true then [] else [b_ioerror]) : List (List UInt8)) = [] := by rw [hw, hop]; rfl
    rw [e2] at I5 ⊢
    clear I1 I2 I3 I4 hd e2
    obtain ⟨R1, R2, hsp⟩ := split_mem hr
    have hra := I5.rowAt hr
    obtain ⟨hdeck, hcA, hown, hnm, hocA, hrwA, hT, htd, hdk, hopA⟩ := I5.all
    have hlt := RO.of
    have hoc79 : (s.octets.getD r.of []).length ≤ 79 := by have := getD_le G.oc r.of; have := G.tle; omega
    have hocl : s.octets.length ≤ 17 := by have := G.ocl; have := G.tle; omega
    have hgd : s.octets[r.of] = s.octets.getD r.of [] := by rw [List.getD_eq_getElem?_getD, List.getElem?_eq_getElem hlt]; rfl
    have hat := (RO.wr hw hop).2
    refine t_bool ?_
    refine ite_t ?_
    refine S_seq ?_
    refine S_swap (names := [S "was", S "at"]) hH' ?_ (by kernel_rfl) (by kernel_rfl)
    repeat' walk_at "v"
    refine i_list (xs := s.octets.map .bytes) (v := .bytes (s.octets.getD r.of [])) hocA (by omega) (by omega) (by simp [hlt]) ?_
    repeat' walk_at "v"
    refine ⟨leB (by kernel_rfl), rfl, A_cons fun u hu => A_bind C' hu (by walk_at "wipe") (A_cons fun u hu => A_bind C' hu (by walk_at "wipe") (A_nil ?_) (by kernel_rfl)) (by kernel_rfl)⟩
    refine K_next ?_
    refine S_join (K1 := fun l σ' => l = [(S "was", .bytes (s.octets.getD r.of [])), (S "at", .int r.at_), (S "octets", .bytes o), (S "due", .ref du), (S "deck", .ref s.deck), (S "own", .ref s.own), (S "row", .ref r.a)] ∧ Inv ((du, .list []) :: E) { s with k := s.k + 1, octets := s.octets.set r.of (splice r.at_ o (s.octets.getD r.of [])) } σ') ?_ ?_
    · repeat' walk_at "v"
      refine s_bytes (by omega) ?_
      rw [cut_to]
      repeat' walk_at "v"
      have ht1 : ((s.octets.getD r.of []).take r.at_).length ≤ 79 := Nat.le_trans (by rw [List.length_take]; exact Nat.min_le_right _ _) hoc79
      refine o_addb (by omega) ?_
      repeat' walk_at "v"
      refine c_len_bytes (by omega) ?_
      repeat' walk_at "v"
      refine s_bytes (by omega) ?_
      rw [show (r.at_ : Int) + (o.length : Int) = ((r.at_ + o.length : Nat) : Int) by omega, cut_from]
      have ht2 : ((s.octets.getD r.of []).drop (r.at_ + o.length)).length ≤ 79 := Nat.le_trans (by simp) hoc79
      refine o_addb (by rw [List.length_append]; omega) ?_
      repeat' walk_at "v"
      refine p_list (xs := s.octets.map .bytes) hocA (by omega) (by simp; omega) (by simp; omega) ?_
      have I6 := I5.setoctets (s.octets.set r.of (splice r.at_ o (s.octets.getD r.of [])))
      rw [List.map_set] at I6
      exact ⟨rfl, rfl, I6⟩
    rintro _ σ6 ⟨rfl, I6⟩
    have hra6 := I6.rowAt hr
    have I7 := I6.setrowA (r := r) (r' := { r with at_ := r.at_ + o.length }) hsp rfl rfl rfl rfl rfl
    refine S_last ?_
    repeat' walk_at "v"
    refine c_len_bytes (by omega) ?_
    repeat' walk_at "v"
    refine K_next ?_
    refine S_seq ?_
    have hG := (G.setk (s.k + 1)).wrote (r' := { r with at_ := r.at_ + o.length, fat := r.at_ + o.length, place := ((r.at_ + o.length : Nat) : Int) }) ht hsp hop hw hol rfl
    have hfat := RO.at_ hop
    have hoct : r.oct s = s.octets.getD r.of [] := by rw [G.oct hr hop]; unfold Row.law; rw [hw]; rfl
    have hoctle := G.octle hr
    have hdl := G.dl
    have hfo := RO.fop
    have hiS : (getK s.disk r.name).isSome = true := G.isS hr hw (by rw [hfo]; exact hop)
    refine try_core (Kt := seqK _ _ _ _) (XB := fun _ _ => False) (locE := [(S "was", .bytes (s.octets.getD r.of [])), (S "at", .int r.at_), (S "octets", .bytes o), (S "due", .ref du), (S "deck", .ref s.deck), (S "own", .ref s.own), (S "row", .ref r.a)]) (loc' := [(S "was", .bytes (s.octets.getD r.of [])), (S "at", .int r.at_), (S "octets", .bytes o), (S "due", .ref du), (S "deck", .ref s.deck), (S "own", .ref s.own), (S "row", .ref r.a)]) C' F' hH' (TB_expr ?_ (by kernel_rfl) (by kernel_rfl)) (by walk_at "wipe") (fun _ _ _ _ _ hX => hX.elim) (by kernel_rfl) (by kernel_rfl)
    repeat' walk_at "v"
    have hfm : r.f ∈ (R1 ++ { r with at_ := r.at_ + o.length } :: R2).map (·.f) := by simp
    refine ⟨_, _, by kernel_rfl, meth_f C' I7 (x := r.f) (f := 132) hfm (by kernel_rfl) (by kernel_rfl) no_write, ?_⟩
    repeat' walk_at "v"
    refine write_row C' hH' hn3 I7 (R1 := R1) (R2 := R2) (r := { r with at_ := r.at_ + o.length }) rfl (by omega) (Nat.le_trans hoctle (by decide)) (Nat.le_trans hdl (by decide)) (fun _ => by show r.fat ≤ (r.oct s).length; rw [hfat, hoct]; exact hat) (fun _ _ => hiS) (fun _ _ σ8 I8 => ?_) (fun _ hf => by rw [show r.fop = r.op from hfo, hop] at hf; cases hf) (fun hf => by rw [show wayR r.way = false from hw] at hf; cases hf)
    have I9 : Inv ((du, .list []) :: E) { s with k := s.k + 1, octets := s.octets.set r.of (splice r.at_ o (s.octets.getD r.of [])), disk := putK s.disk r.name (splice r.at_ o (s.octets.getD r.of [])), rows := R1 ++ { r with at_ := r.at_ + o.length, fat := r.at_ + o.length, place := ((r.at_ + o.length : Nat) : Int) } :: R2 } σ8 := by
      have e8 : Row.wrote { r with at_ := r.at_ + o.length } o.length = { r with at_ := r.at_ + o.length, fat := r.at_ + o.length, place := ((r.at_ + o.length : Nat) : Int) } := by unfold Row.wrote; simp only [hfat]
      rw [e8] at I8
      have e9 : splice r.fat o (r.oct s) = splice r.at_ o (s.octets.getD r.of []) := by rw [hfat, hoct]
      rw [← e9]
      rw [← e9] at I8
      exact I8
    refine K_next ?_
    refine S_last ?_
    refine S_ret ?_
    refine E_compare ?_ (by kernel_rfl)
    repeat' walk_at "v"
    refine E_list C' ?_
    repeat' walk_at "v"
    refine ⟨leB rfl, fun z2 hz2 => ?_⟩
    refine o_eq_nil C' (at_ne (I9.frame (.head _)) (ne_fresh (I9.frame (.head _)) hz2)) (upd_self _ _ _) ?_
    refine h _ _ ?_ (I9.garbage hz2).pop
    exact ⟨rfl, rfl, rfl, Nat.le_succ _, hG⟩
  · have e2 : (((if wayR r.way = true then [b_invalidaccess] else []) ++ (if r.op = true then [] else [b_ioerror]) : List (List UInt8)).map MV.bytes).isEmpty = false := by
      cases hw : wayR r.way <;> cases hop : r.op <;> first | rfl | exact absurd ⟨hw, hop⟩ hg
    rw [e2]
    refine t_bool ?_
    refine ite_f ?_
    refine S_nil ?_
    refine K_next ?_
    refine S_seq ?_
    have hfat := RO.at_
    have hoctle := G.octle hr
    have hdl := G.dl
    have hfo := RO.fop
    obtain ⟨R1, R2, hsp⟩ := split_mem hr
    have hiS : wayR r.way = false → r.fop = true → (getK s.disk r.name).isSome = true := fun hw ho => G.isS hr hw ho
    have hle : r.fop = true → r.fat ≤ (r.oct s).length := fun ho => by
      rw [hfo] at ho
      rw [hfat ho, G.oct hr ho]
      exact G.at_le hr ho
    refine try_core (Kt := seqK _ _ _ _) (XB := fun told σ' => Inv ((du, .list (((if wayR r.way = true then [b_invalidaccess] else []) ++ (if r.op = true then [] else [b_ioerror])).map .bytes)) :: E) { s with k := s.k + 1 } σ' ∧ ∃ b, told = .bytes b ∧ b ∈ ((if wayR r.way = true then [b_invalidaccess] else []) ++ (if r.op = true then [] else [b_ioerror]))) (locE := [(S "octets", .bytes o), (S "due", .ref du), (S "deck", .ref s.deck), (S "own", .ref s.own), (S "row", .ref r.a)]) (loc' := [(S "octets", .bytes o), (S "due", .ref du), (S "deck", .ref s.deck), (S "own", .ref s.own), (S "row", .ref r.a)]) C' F' hH' (TB_expr ?_ (by kernel_rfl) (by kernel_rfl)) (by walk_at "wipe") ?_ (by kernel_rfl) (by kernel_rfl)
    · have hra := I5.rowAt hr
      repeat' walk_at "v"
      refine ⟨_, _, by kernel_rfl, meth_f C' I5 (x := r.f) (f := 132) (List.mem_map_of_mem (f := (·.f)) hr) (by kernel_rfl) (by kernel_rfl) no_write, ?_⟩
      repeat' walk_at "v"
      refine write_row C' hH' hn3 I5 hsp (by omega) (Nat.le_trans hoctle (by decide)) (Nat.le_trans hdl (by decide)) hle hiS (fun hw ho => absurd ⟨hw, hfo ▸ ho⟩ hg) (fun hw ho e he => ⟨I5.garbage he, _, rfl, ?_⟩) (fun hw e he => ⟨I5.garbage he, _, rfl, ?_⟩)
      · rw [hfo] at ho
        rw [hw, ho]; decide
      · rw [hw]; exact List.mem_append_left _ (.head _)
    · rintro told σ' a ed A' ⟨I6, b, rfl, hb⟩ ha hed c' Cc
      have hne : ed ≠ a := ne_fresh hed ha
      have hdu := I6.frame (.head _)
      refine S_last ?_
      refine S_ret ?_
      refine E_compare ?_ (by kernel_rfl)
      repeat' walk_at "v"
      refine a_toldR Cc (upd_self _ _ _) (at_ne hed hne) rfl ?_
      repeat' walk_at "v"
      refine o_in_list (at_ne hdu (ne_fresh hdu ha)) ?_
      rw [show (((if wayR r.way = true then [b_invalidaccess] else []) ++ (if r.op = true then [] else [b_ioerror])).any fun y => decide (y = b)) = true from List.any_eq_true.mpr ⟨b, hb, by simp⟩]
      refine h _ _ ?_ (I6.garbage ha).pop
      exact ⟨rfl, rfl, rfl, Nat.le_succ _, G.up ht _⟩
end
section
variable {c : Cx} {loc : Loc} {σ : MHeap} {α β : Type} {X : MV → MHeap → Prop} {Q : MV → MHeap → Prop} {h h' : Heap} {a d : Addr} {Kt : MF → Loc → MHeap → Prop} {B : Bool → MHeap → Prop}
variable {E : Cells} {s : St} {t : Nat}
theorem no_read : ∀ num name cr cw op place last k v a, (k = S "octets" ∨ k = S "disk") → ((sdL (fO num name cr cw op place last k v a)).all fun p => !decide (p.1 = S "read")) = true := by
  rintro num name cr cw op place last k v a (rfl | rfl) <;> kernel_rfl
theorem cut_mid {γ : Type} {a m : Nat} {x : List γ} (h : a ≤ x.length) : cut (some (a : Int)) (some ((a + m : Nat) : Int)) x = (x.drop a).take m := by
  simp only [cut, Option.elim_some, clipN]
  rw [Nat.min_eq_left h]
  by_cases h2 : a + m ≤ x.length
  · rw [Nat.min_eq_left h2, Nat.add_sub_cancel_left]
  · rw [Nat.min_eq_right (by omega), List.take_of_length_le (by rw [List.length_drop]; omega), List.take_of_length_le (by rw [List.length_drop]; omega)]
noncomputable def Row.due (s : St) (r : Row) (many : Nat) : List UInt8 := if r.op = true then ((r.law s).drop r.at_).take many else []
theorem way_cr : ∀ w ∈ ways6, w ≠ [119] → w ≠ [97] → wayR w = false → wayCr w = true := by decide +kernel
theorem Good.did (G : Good t s) (ht : t + 1 ≤ 15) {R1 R2 : List Row} {r r' : Row} (hr : s.rows = R1 ++ r :: R2) {many : Nat} {op fop : Bool} {place : Int} {last : MV}
    (hop : op = if (wayR r.way && decide ((r.due s many).length < many)) = true then false else r.op) (hfop : fop = if (r.due s many).length = many then r.op else r.op && !wayR r.way)
    (e : r' = { r with at_ := r.at_ + (r.due s many).length, op := op, fop := fop, fat := r.fat + (r.due s many).length, place := place, last := last }) : Good (t + 1) { s with rows := R1 ++ r' :: R2 } := by
  have hrm : r ∈ s.rows := by rw [hr]; simp
  have R := (G.rows r hrm).up
  have hle : (r.due s many).length ≤ many := by unfold Row.due; split; rw [List.length_take]; exact Nat.min_le_left _ _; exact Nat.zero_le _
  have hopr : op = true → r.op = true := fun h => by
    rw [hop] at h
    split at h
    · cases h
    · exact h
  have hat : r.op = true → r.at_ + (r.due s many).length ≤ (r.law s).length := fun ho => by
    have := G.at_le hrm ho
    unfold Row.due
    rw [if_pos ho, List.length_take, List.length_drop]
    omega
  refine (G.up ht s.k).row (r' := r') hr (by rw [e]) (fun h => hopr (by rw [e] at h; exact h)) ?_
  rw [e]
  refine ⟨R.way, ?_, fun h => ?_, R.was, R.of, fun hw h => ?_, fun hw h => ?_⟩
  · show fop = op
    rw [hop, hfop]
    cases hw : wayR r.way
    · simp
    · by_cases h : (r.due s many).length = many
      · rw [if_pos h, if_neg (by simp [h])]
      · rw [if_neg h, if_pos (by simp; omega)]
        simp
  · show r.fat + _ = r.at_ + _
    rw [R.at_ (hopr h)]
  · have := hat (hopr h)
    unfold Row.law at this
    rw [if_pos hw] at this
    exact this
  · have := hat (hopr h)
    have hw' : wayR r.way = false := hw
    unfold Row.law at this
    rw [hw', if_neg Bool.false_ne_true] at this
    exact ⟨(R.wr hw' (hopr h)).1, this⟩
theorem read_ok (C : c.Ok) (hH : c.A.handled = none) (hn : 6 ≤ c.n) (I : Inv E s σ) (G : Good t s) (ht : t + 1 ≤ 15) (hk : s.k ≤ 500) {r : Row} (hr : r ∈ s.rows) (h : ∀ s' σ', Nxt t s s' → Inv E s' σ' → Q (.bool true) σ') : CallR c loc σ (.ref 473) [.ref s.deck, .ref s.own, .ref r.a] Q X := by
  refine call_fn C hH (by omega) (fn473 _) rfl (loc₀ := [(S "deck", .ref s.deck), (S "own", .ref s.own), (S "row", .ref r.a)]) rfl ?_
  intro H n' A frames fr fix L hn' hH' C' F'
  have hn3 : 3 ≤ n' := by omega
  have hn1 : 1 ≤ n' := by omega
  have hcs := G.cs
  have RO := G.rows r hr
  have hocl : s.octets.length ≤ 17 := by have := G.ocl; have := G.tle; omega
  have hll := G.lawle hr
  refine S_join (K1 := fun l σ' => ∃ m : Nat, m ≤ 4 ∧ l = [(S "many", .int m), (S "deck", .ref s.deck), (S "own", .ref s.own), (S "row", .ref r.a)] ∧ Inv E { s with k := s.k + 1 } σ') ?_ ?_
  · refine S_name C' ?_ (by kernel_rfl) (by kernel_rfl)
    refine E_binop ?_
    refine E_int ?_
    refine E_draw (b := 4) C' hn1 .head (by kernel_rfl) (by kernel_rfl) I (by omega) (by omega) (by decide) fun i σ1 h0 h1 I1 => ?_
    obtain ⟨m, rfl⟩ := Int.eq_ofNat_of_zero_le h0
    refine o_add ?_
    rw [show (1 : Int) + (m : Int) = ((m + 1 : Nat) : Int) by omega]
    refine ⟨_, by walk_at "wipe", rfl, m + 1, by omega, rfl, I1⟩
  rintro _ σ1 ⟨m, hm, rfl, I1⟩
  have hra := I1.rowAt hr
  refine S_seq ?_
  repeat' walk_at "v"
  refine E_tuple C' ?_
  repeat' walk_at "v"
  refine ⟨leB (by kernel_rfl), fun z hz => ?_⟩
  have I2 := I1.garbage (o := .tup [.bytes [119], .bytes [97]]) hz
  refine o_in_tup (ys := [[119], [97]]) (Has.of (upd_self _ _ _)) ?_
  repeat' walk_at "v"
  cases hwa : ([[119], [97]].any fun y => decide (y = r.way))
  case true =>
    refine ite_t ?_
    refine S_last ?_
    repeat' walk_at "v"
    refine h _ _ ?_ I2
    exact ⟨rfl, rfl, rfl, Nat.le_succ _, G.up ht _⟩
  refine ite_f ?_
  refine S_nil ?_
  refine K_next ?_
  have hcr : wayR r.way = false → wayCr r.way = true := way_cr _ RO.way (fun e => by rw [e] at hwa; exact absurd hwa (by decide)) (fun e => by rw [e] at hwa; exact absurd hwa (by decide))
  have hdl : (r.due s m).length ≤ m := by unfold Row.due; split; rw [List.length_take]; exact Nat.min_le_left _ _; exact Nat.zero_le _
  obtain ⟨R1, R2, hsp⟩ := split_mem hr
  refine S_join (K1 := fun l σ' => l = [(S "due", .bytes (r.due s m)), (S "many", .int m), (S "deck", .ref s.deck), (S "own", .ref s.own), (S "row", .ref r.a)] ∧ Inv E { s with k := s.k + 1 } σ') ?_ ?_
  · have hra2 := I2.rowAt hr
    refine S_name C' ?_ (by kernel_rfl) (by kernel_rfl)
    repeat' walk_at "v"
    unfold Row.due
    cases hop : r.op
    · refine ite_f ?_
      repeat' walk_at "v"
      exact ⟨rfl, rfl, I2⟩
    · refine ite_t ?_
      repeat' walk_at "v"
      refine has_ok C' hH' hn1 I2 hr RO.of (by show s.octets.length ≤ 1000; omega) ?_
      repeat' walk_at "v"
      have hat := G.at_le hr hop
      refine s_bytes (Nat.le_trans hll (by decide)) ?_
      rw [show (r.at_ : Int) + (m : Int) = ((r.at_ + m : Nat) : Int) by omega]
      rw [show Row.law { s with k := s.k + 1 } r = r.law s from rfl, cut_mid hat]
      exact ⟨_, by walk_at "wipe", rfl, rfl, I2⟩
  rintro _ σ3 ⟨rfl, I3⟩
  refine S_join (K1 := fun l σ' => l = [(S "due", .bytes (r.due s m)), (S "many", .int m), (S "deck", .ref s.deck), (S "own", .ref s.own), (S "row", .ref r.a)] ∧ Inv E { s with k := s.k + 1, rows := R1 ++ { r with at_ := r.at_ + (r.due s m).length } :: R2 } σ') ?_ ?_
  · have hra2 := I3.rowAt hr
    have I4 := I3.setrowA (r := r) (r' := { r with at_ := r.at_ + (r.due s m).length }) hsp rfl rfl rfl rfl rfl
    repeat' walk_at "v"
    refine c_len_bytes (by omega) ?_
    repeat' walk_at "v"
    exact ⟨rfl, rfl, I4⟩
  rintro _ σ4 ⟨rfl, I4⟩
  refine S_join (K1 := fun l σ' => l = [(S "due", .bytes (r.due s m)), (S "many", .int m), (S "deck", .ref s.deck), (S "own", .ref s.own), (S "row", .ref r.a)] ∧ Inv E { s with k := s.k + 1, rows := R1 ++ { r with at_ := r.at_ + (r.due s m).length, op := if (wayR r.way && decide ((r.due s m).length < m)) = true then false else r.op } :: R2 } σ') ?_ ?_
  · have hra2 := I4.rowAt (r := { r with at_ := r.at_ + (r.due s m).length }) (by simp)
    have I5 := I4.setrowA (R1 := R1) (R2 := R2) (r := { r with at_ := r.at_ + (r.due s m).length }) (r' := { r with at_ := r.at_ + (r.due s m).length, op := false }) rfl rfl rfl rfl rfl rfl
    unfold wayR
    repeat' walk_at "v"
    cases hw : (r.way == [114])
    · refine ite_f ?_
      refine ite_f ?_
      refine S_nil ?_
      exact ⟨rfl, rfl, I4⟩
    · refine ite_t ?_
      repeat' walk_at "v"
      refine c_len_bytes (by omega) ?_
      repeat' walk_at "v"
      refine ite_of (fun hz => ?_) (fun hz => ?_)
      · have hz' : (r.due s m).length < m := by
          have : (((r.due s m).length : Nat) : Int) < (m : Int) := by simpa using hz
          omega
        repeat' walk_at "v"
        refine S_last ?_
        repeat' walk_at "v"
        refine ⟨rfl, rfl, ?_⟩
        rw [decide_eq_true hz']
        exact I5
      · have hz' : ¬ (r.due s m).length < m := by
          have : ¬ (((r.due s m).length : Nat) : Int) < (m : Int) := by simpa using hz
          omega
        refine ite_f ?_
        refine S_nil ?_
        refine ⟨rfl, rfl, ?_⟩
        rw [decide_eq_false hz']
        exact I4
  rintro _ σ5 ⟨rfl, I5⟩
  have hra5 := I5.rowAt (r := { r with at_ := r.at_ + (r.due s m).length, op := if (wayR r.way && decide ((r.due s m).length < m)) = true then false else r.op }) (by simp)
  have hoctle : (r.oct s).length ≤ 1000 := Nat.le_trans (G.octle hr) (by decide)
  have hiS : wayR r.way = false → r.fop = true → (getK s.disk r.name).isSome = true := fun hw ho => G.isS hr hw ho
  refine S_last ?_
  refine S_ret ?_
  refine E_compare ?_ (by kernel_rfl)
  repeat' walk_at "v"
  have hfm : r.f ∈ (R1 ++ { r with at_ := r.at_ + (r.due s m).length, op := if (wayR r.way && decide ((r.due s m).length < m)) = true then false else r.op } :: R2).map (·.f) := by simp
  refine ⟨_, _, by kernel_rfl, meth_f C' I5 (x := r.f) (f := 118) hfm (by kernel_rfl) (by kernel_rfl) no_read, ?_⟩
  repeat' walk_at "v"
  refine read_row C' hH' hn3 I5 (R1 := R1) (R2 := R2) (r := { r with at_ := r.at_ + (r.due s m).length, op := if (wayR r.way && decide ((r.due s m).length < m)) = true then false else r.op }) rfl (by omega) hoctle hiS hcr fun u op place last σ6 e1 e2 I6 => ?_
  have hu : u = r.due s m := by
    rw [e1]
    unfold Row.due
    show (if r.fop = true then ((r.oct s).drop r.fat).take m else []) = _
    rw [RO.fop]
    split
    · rename_i ho
      rw [G.oct hr ho, RO.at_ ho]
    · rfl
  subst hu
  repeat' walk_at "v"
  rw [beq_self_eq_true]
  refine h _ _ ?_ I6
  refine ⟨rfl, rfl, rfl, Nat.le_succ _, ?_⟩
  exact (G.setk (s.k + 1)).did ht hsp rfl (fop := op) (by rw [e2]; show _ = if _ then r.op else _; rw [← RO.fop]; rfl) rfl
end
section
variable {c : Cx} {loc : Loc} {σ : MHeap} {α β : Type} {X : MV → MHeap → Prop} {Q : MV → MHeap → Prop} {h h' : Heap} {a d : Addr} {Kt : MF → Loc → MHeap → Prop} {B : Bool → MHeap → Prop}
variable {E : Cells} {s : St} {t : Nat}
theorem no_setpos : ∀ num name cr cw op place last k v a, (k = S "octets" ∨ k = S "disk") → ((sdL (fO num name cr cw op place last k v a)).all fun p => !decide (p.1 = S "set_position")) = true := by
  rintro num name cr cw op place last k v a (rfl | rfl) <;> kernel_rfl
theorem u_neg {a : Int} (h : Q (.int (-a)) σ) : UnR c loc σ .USub (.int a) Q X := fun u hu => by
  obtain ⟨t, rfl⟩ := er_int hu
  exact fun s hs => neg_int (.tok hs h)
theorem div2 (x : Int) : Builtin.divisionGoesByPylong x 2 = false := rfl
theorem Good.set (G : Good t s) (ht : t + 1 ≤ 15) {R1 R2 : List Row} {r : Row} (hr : s.rows = R1 ++ r :: R2) (ho : r.op = true) {q : Nat} (hq : q ≤ (r.law s).length) {p : Int} {l : MV} : Good (t + 1) { s with rows := R1 ++ { r with at_ := q, fat := q, place := p, last := l } :: R2 } := by
  have hrm : r ∈ s.rows := by rw [hr]; simp
  have R := (G.rows r hrm).up
  refine (G.up ht s.k).row hr rfl (fun h => h) ⟨R.way, R.fop, fun _ => rfl, R.was, R.of, fun hw h => ?_, fun hw h => ⟨(R.wr hw h).1, ?_⟩⟩
  · unfold Row.law at hq
    rw [if_pos hw] at hq
    exact hq
  · have hw' : wayR r.way = false := hw
    unfold Row.law at hq
    rw [hw', if_neg Bool.false_ne_true] at hq
    exact hq
noncomputable def duePlace (r : Row) (m : Nat) (p : Int) : List (List UInt8) := (if (!r.op || decide ((m : Int) < p)) = true then [b_ioerror] else []) ++ (if decide (p < 0) = true then [b_rangecheck] else [])
theorem placed_ok (C : c.Ok) (hH : c.A.handled = none) (hn : 6 ≤ c.n) (I : Inv E s σ) (G : Good t s) (ht : t + 1 ≤ 15) (hk : s.k ≤ 500) {r : Row} (hr : r ∈ s.rows) (h : ∀ s' σ', Nxt t s s' → Inv E s' σ' → Q (.bool true) σ') : CallR c loc σ (.ref 480) [.ref s.deck, .ref s.own, .ref r.a] Q X := by
  refine call_fn C hH (by omega) (fn480 _) rfl (loc₀ := [(S "deck", .ref s.deck), (S "own", .ref s.own), (S "row", .ref r.a)]) rfl ?_
  intro H n' A frames fr fix L hn' hH' C' F'
  have hn3 : 3 ≤ n' := by omega
  have hn1 : 1 ≤ n' := by omega
  have hcs := G.cs
  have RO := G.rows r hr
  have hocl : s.octets.length ≤ 17 := by have := G.ocl; have := G.tle; omega
  have hll := G.lawle hr
  refine S_seq ?_
  refine S_swap (names := [S "many", S "due"]) hH' ?_ (by kernel_rfl) (by kernel_rfl)
  repeat' walk_at "v"
  refine has_ok C' hH' hn1 I hr RO.of (by omega) ?_
  repeat' walk_at "v"
  refine c_len_bytes (by omega) ?_
  repeat' walk_at "v"
  refine E_list C' ?_
  repeat' walk_at "v"
  refine ⟨leB rfl, fun du hdu => ?_⟩
  repeat' walk_at "v"
  have I1 := I.push (o := .list []) hdu
  refine ⟨leB (by kernel_rfl), rfl, A_cons fun u hu => A_bind C' hu (by walk_at "wipe") (A_cons fun u hu => A_bind C' hu (by walk_at "wipe") (A_nil ?_) (by kernel_rfl)) (by kernel_rfl)⟩
  refine K_next ?_
  refine S_join (K1 := fun l σ' => ∃ p : Int, l = [(S "place", .int p), (S "many", .int (r.law s).length), (S "due", .ref du), (S "deck", .ref s.deck), (S "own", .ref s.own), (S "row", .ref r.a)] ∧ Inv ((du, .list []) :: E) { s with k := s.k + 1 } σ') ?_ ?_
  · refine S_name C' ?_ (by kernel_rfl) (by kernel_rfl)
    refine E_sub ?_
    refine E_tuple C' ?_
    repeat' walk_at "v"
    refine u_neg ?_
    repeat' walk_at "v"
    refine o_fdiv (by decide) ?_ (div2 _)
    repeat' walk_at "v"
    refine ⟨leB (by kernel_rfl), fun z hz => ?_⟩
    have I2 := I1.push (o := .tup (([0, ((r.law s).length : Int), ((r.law s).length : Int) + 1, -1, ((r.law s).length : Int).fdiv 2] : List Int).map .int)) hz
    refine E_draw (b := 5) C' hn1 (.tail (.tail .head)) (by kernel_rfl) (by kernel_rfl) I2 (by omega) (by omega) (by decide) fun i σ1 h0 h1 I3 => ?_
    have hi : i.toNat < ([0, ((r.law s).length : Int), ((r.law s).length : Int) + 1, -1, ((r.law s).length : Int).fdiv 2] : List Int).length := by show i.toNat < 5; omega
    refine i_tup (v := .int ([0, ((r.law s).length : Int), ((r.law s).length : Int) + 1, -1, ((r.law s).length : Int).fdiv 2] : List Int)[i.toNat]) (Has.of (I3.frame (.head _))) h0 (by omega) (by rw [List.getElem?_map, List.getElem?_eq_getElem hi]; rfl) ?_
    exact ⟨_, by walk_at "wipe", rfl, _, rfl, I3.pop⟩
  rintro _ σ1 ⟨p, rfl, I2⟩
  have hd2 := I2.frame (.head _)
  refine S_join (K1 := fun l σ' => l = [(S "place", .int p), (S "many", .int (r.law s).length), (S "due", .ref du), (S "deck", .ref s.deck), (S "own", .ref s.own), (S "row", .ref r.a)] ∧ Inv ((du, .list ((if (!r.op || decide (((r.law s).length : Int) < p)) = true then [b_ioerror] else []).map .bytes)) :: E) { s with k := s.k + 1 } σ') ?_ ?_
  · have hra := I2.rowAt hr
    repeat' walk_at "v"
    have add : ∀ σ', σ' = upd σ1 du (.list ([] ++ [.bytes b_ioerror])) → Inv ((du, .list ([b_ioerror].map .bytes)) :: E) { s with k := s.k + 1 } σ' := fun σ' e => by
      rw [e]; exact I2.setE
    cases hop : r.op
    · refine ite_t ?_
      refine ite_t ?_
      refine S_last ?_
      repeat' walk_at "v"
      refine ⟨_, _, by kernel_rfl, m_append hd2, ?_⟩
      repeat' walk_at "v"
      refine c_append hd2 (by simp) ?_
      exact ⟨rfl, rfl, add _ rfl⟩
    · refine ite_nf ?_
      repeat' walk_at "v"
      cases hlt : decide (((r.law s).length : Int) < p)
      · refine ite_f ?_
        repeat' walk_at "v"
        refine S_nil ?_
        exact ⟨rfl, rfl, I2⟩
      · refine ite_t ?_
        refine ite_t ?_
        refine S_last ?_
        repeat' walk_at "v"
        refine ⟨_, _, by kernel_rfl, m_append hd2, ?_⟩
        repeat' walk_at "v"
        refine c_append hd2 (by simp) ?_
        exact ⟨rfl, rfl, add _ rfl⟩
  rintro _ σ2 ⟨rfl, I3⟩
  refine S_join (K1 := fun l σ' => l = [(S "place", .int p), (S "many", .int (r.law s).length), (S "due", .ref du), (S "deck", .ref s.deck), (S "own", .ref s.own), (S "row", .ref r.a)] ∧ Inv ((du, .list ((duePlace r (r.law s).length p).map .bytes)) :: E) { s with k := s.k + 1 } σ') ?_ ?_
  · have hd3 := I3.frame (.head _)
    unfold duePlace
    repeat' walk_at "v"
    cases hlt : decide (p < 0)
    · refine ite_f ?_
      refine S_nil ?_
      refine ⟨rfl, rfl, ?_⟩
      rw [if_neg Bool.false_ne_true, List.append_nil]
      exact I3
    · refine ite_t ?_
      refine S_last ?_
      repeat' walk_at "v"
      refine ⟨_, _, by kernel_rfl, m_append hd3, ?_⟩
      repeat' walk_at "v"
      refine c_append hd3 (by split <;> simp) ?_
      refine ⟨rfl, rfl, ?_⟩
      rw [if_pos rfl, List.map_append]
      exact I3.setE
  rintro _ σ3 ⟨rfl, I4⟩
  have hd4 := I4.frame (.head _)
  refine S_seq ?_
  refine S_if ?_
  refine B_compare ?_ (by kernel_rfl)
  repeat' walk_at "v"
  refine E_list C' ?_
  repeat' walk_at "v"
  refine ⟨leB rfl, fun z hz => ?_⟩
  have I5 := I4.garbage (o := .list []) hz
  refine o_eq_nil C' (at_ne hd4 (ne_fresh hd4 hz)) (upd_self _ _ _) ?_
  have hfo := RO.fop
  have hoctle : (r.oct s).length ≤ 1000 := Nat.le_trans (G.octle hr) (by decide)
  have hiS : wayR r.way = false → r.fop = true → (getK s.disk r.name).isSome = true := fun hw ho => G.isS hr hw ho
  by_cases hg : r.op = true ∧ 0 ≤ p ∧ p ≤ (r.law s).length
  · obtain ⟨hop, h0, h1⟩ := hg
    obtain ⟨q, rfl⟩ := Int.eq_ofNat_of_zero_le h0
    have e2 : duePlace r (r.law s).length (q : Int) = [] := by
      unfold duePlace
      rw [hop, decide_eq_false (by omega), decide_eq_false (by omega)]
      rfl
    rw [e2] at I5 ⊢
    clear I1 I2 I3 I4 hd2 hd4 e2
    obtain ⟨R1, R2, hsp⟩ := split_mem hr
    have hra := I5.rowAt hr
    have I6 := I5.setrowA (r := r) (r' := { r with at_ := q }) hsp rfl rfl rfl rfl rfl
    refine t_bool ?_
    refine ite_t ?_
    refine S_last ?_
    repeat' walk_at "v"
    refine K_next ?_
    refine S_seq ?_
    refine try_core (Kt := seqK _ _ _ _) (XB := fun _ _ => False) (locE := [(S "place", .int q), (S "many", .int (r.law s).length), (S "due", .ref du), (S "deck", .ref s.deck), (S "own", .ref s.own), (S "row", .ref r.a)]) (loc' := [(S "place", .int q), (S "many", .int (r.law s).length), (S "due", .ref du), (S "deck", .ref s.deck), (S "own", .ref s.own), (S "row", .ref r.a)]) C' F' hH' (TB_expr ?_ (by kernel_rfl) (by kernel_rfl)) (by walk_at "wipe") (fun _ _ _ _ _ hX => hX.elim) (by kernel_rfl) (by kernel_rfl)
    repeat' walk_at "v"
    obtain ⟨m1, m2⟩ := meth_r (loc := [(S "place", .int q), (S "many", .int (r.law s).length), (S "due", .ref du), (S "deck", .ref s.deck), (S "own", .ref s.own), (S "row", .ref r.a)]) C' I6 (r := { r with at_ := q }) (by simp) (nm := "set_position") (f1 := 223) (f2 := 277) (by kernel_rfl) (by kernel_rfl) no_setpos (by kernel_rfl) (by kernel_rfl)
    refine ⟨_, _, m2, m1, ?_⟩
    repeat' walk_at "v"
    have hol : (r.oct s).length = (r.law s).length := by rw [G.oct hr hop]
    refine set_row C' hH' hn3 I6 (R1 := R1) (R2 := R2) (r := { r with at_ := q }) rfl hoctle hiS (fun _ q' e hq' σ8 I8 => ?_) (fun hf => by rw [show r.fop = r.op from hfo, hop] at hf; cases hf) (fun _ hf => by omega) (fun _ hf => by have hf' : ((r.oct s).length : Int) < (q : Int) := hf; omega)
    have e3 : q' = q := by omega
    subst e3
    refine K_next ?_
    refine S_last ?_
    refine S_ret ?_
    refine E_compare ?_ (by kernel_rfl)
    repeat' walk_at "v"
    refine E_list C' ?_
    repeat' walk_at "v"
    refine ⟨leB rfl, fun z2 hz2 => ?_⟩
    refine o_eq_nil C' (at_ne (I8.frame (.head _)) (ne_fresh (I8.frame (.head _)) hz2)) (upd_self _ _ _) ?_
    refine h _ _ ?_ (I8.garbage hz2).pop
    exact ⟨rfl, rfl, rfl, Nat.le_succ _, (G.setk (s.k + 1)).set ht hsp hop (by show q' ≤ (r.law s).length; omega)⟩
  · have e2 : ((duePlace r (r.law s).length p).map MV.bytes).isEmpty = false := by
      unfold duePlace
      by_cases h1 : p < 0
      · rw [decide_eq_true h1]
        cases (!r.op || decide (((r.law s).length : Int) < p)) <;> rfl
      · rw [decide_eq_false h1]
        have : (!r.op || decide (((r.law s).length : Int) < p)) = true := by
          cases hop : r.op
          · rfl
          · rw [decide_eq_true (by
              have : ¬ p ≤ ((r.law s).length : Int) := fun h2 => hg ⟨hop, by omega, h2⟩
              omega)]
            rfl
        rw [this]; rfl
    rw [e2]
    refine t_bool ?_
    refine ite_f ?_
    refine S_nil ?_
    refine K_next ?_
    refine S_seq ?_
    obtain ⟨R1, R2, hsp⟩ := split_mem hr
    refine try_core (Kt := seqK _ _ _ _) (XB := fun told σ' => Inv ((du, .list ((duePlace r (r.law s).length p).map .bytes)) :: E) { s with k := s.k + 1 } σ' ∧ ∃ b, told = .bytes b ∧ b ∈ duePlace r (r.law s).length p) (locE := [(S "place", .int p), (S "many", .int (r.law s).length), (S "due", .ref du), (S "deck", .ref s.deck), (S "own", .ref s.own), (S "row", .ref r.a)]) (loc' := [(S "place", .int p), (S "many", .int (r.law s).length), (S "due", .ref du), (S "deck", .ref s.deck), (S "own", .ref s.own), (S "row", .ref r.a)]) C' F' hH' (TB_expr ?_ (by kernel_rfl) (by kernel_rfl)) (by walk_at "wipe") ?_ (by kernel_rfl) (by kernel_rfl)
    · have hra := I5.rowAt hr
      repeat' walk_at "v"
      obtain ⟨m1, m2⟩ := meth_r (loc := [(S "place", .int p), (S "many", .int (r.law s).length), (S "due", .ref du), (S "deck", .ref s.deck), (S "own", .ref s.own), (S "row", .ref r.a)]) C' I5 hr (nm := "set_position") (f1 := 223) (f2 := 277) (by kernel_rfl) (by kernel_rfl) no_setpos (by kernel_rfl) (by kernel_rfl)
      refine ⟨_, _, m2, m1, ?_⟩
      repeat' walk_at "v"
      refine set_row C' hH' hn3 I5 hsp hoctle hiS (fun hf q' e hq' σ8 I8 => ?_) (fun hf e he => ⟨I5.garbage he, _, rfl, ?_⟩) (fun hf hp e he => ⟨I5.garbage he, _, rfl, ?_⟩) (fun hf hp e he => ⟨I5.garbage he, _, rfl, ?_⟩)
      · rw [hfo] at hf
        have hq2 : q' ≤ (r.oct s).length := hq'
        rw [G.oct hr hf] at hq2
        exact absurd ⟨hf, by omega, by omega⟩ hg
      · rw [hfo] at hf
        unfold duePlace
        rw [hf]
        exact List.mem_append_left _ (.head _)
      · unfold duePlace
        rw [decide_eq_true hp]
        exact List.mem_append_right _ (.head _)
      · rw [hfo] at hf
        have hp2 : ((r.oct s).length : Int) < p := hp
        rw [G.oct hr hf] at hp2
        unfold duePlace
        rw [decide_eq_true hp2, Bool.or_true]
        exact List.mem_append_left _ (.head _)
    · rintro told σ' a ed A' ⟨I6, b, rfl, hb⟩ ha hed c' Cc
      have hne : ed ≠ a := ne_fresh hed ha
      have hdu := I6.frame (.head _)
      refine S_last ?_
      refine S_ret ?_
      refine E_compare ?_ (by kernel_rfl)
      repeat' walk_at "v"
      refine a_toldR Cc (upd_self _ _ _) (at_ne hed hne) rfl ?_
      repeat' walk_at "v"
      refine o_in_list (at_ne hdu (ne_fresh hdu ha)) ?_
      rw [show ((duePlace r (r.law s).length p).any fun y => decide (y = b)) = true from List.any_eq_true.mpr ⟨b, hb, by simp⟩]
      refine h _ _ ?_ (I6.garbage ha).pop
      exact ⟨rfl, rfl, rfl, Nat.le_succ _, G.up ht _⟩
end
section
variable {c : Cx} {loc : Loc} {σ : MHeap} {α β : Type} {X : MV → MHeap → Prop} {Q : MV → MHeap → Prop} {h h' : Heap} {a d : Addr} {Kt : MF → Loc → MHeap → Prop} {B : Bool → MHeap → Prop}
variable {s : St} {t : Nat}
theorem Good.map (G : Good t s) {g : Row → Row} {names' : List (List UInt8 × Nat)} {disk' : List (List UInt8 × List UInt8)} (hg : ∀ r, (g r).f = r.f) (hd : disk' = names'.map fun p => (p.1, s.octets.getD p.2 [])) (nk : (names'.map (·.1)).Nodup) (nv : (names'.map (·.2)).Nodup) (nlt : ∀ p ∈ names', p.2 < s.octets.length) (nl : names'.length ≤ 2 + t)
    (hrow : ∀ r ∈ s.rows, RowOk t s.octets names' (g r)) (hop : ∀ r ∈ s.rows, (g r).op = true → r.op = true) : Good t { s with names := names', disk := disk', rows := s.rows.map g } := by
  have hfs : (s.rows.map g).map (·.f) = s.rows.map (·.f) := by
    rw [List.map_map]
    exact List.map_congr_left fun r _ => hg r
  refine ⟨G.tle, G.cs, hd, nk, nv, nlt, G.oc, G.ocl, nl, fun x hx => ?_, ?_, G.opn, fun x hx => ?_, fun x hx hxo => ?_, G.opl⟩
  · obtain ⟨r, hr, rfl⟩ := List.mem_map.mp hx
    exact hrow r hr
  · show (s.rows.map g).length ≤ t
    rw [List.length_map]
    exact G.rl
  · show x ∈ (s.rows.map g).map (·.f)
    rw [hfs]
    exact G.ops x hx
  · obtain ⟨r, hr, rfl⟩ := List.mem_map.mp hx
    rw [hg]
    exact G.opa r hr (hop r hr hxo)
theorem RowOk.closed {oc : List (List UInt8)} {nm nm' : List (List UInt8 × Nat)} {r r' : Row} (R : RowOk t oc nm r) (h1 : r'.op = false) (h2 : r'.fop = false) (h3 : r'.way = r.way) (h4 : r'.was = r.was) (h5 : r'.of = r.of) : RowOk t oc nm' r' :=
  ⟨h3 ▸ R.way, by rw [h1, h2], (fun h => by rw [h1] at h; cases h), h4 ▸ R.was, h5 ▸ R.of, (fun _ h => by rw [h1] at h; cases h), (fun _ h => by rw [h1] at h; cases h)⟩
theorem RowOk.names {oc : List (List UInt8)} {nm nm' : List (List UInt8 × Nat)} {r : Row} (R : RowOk t oc nm r) (h : wayR r.way = false → r.op = true → (r.name, r.of) ∈ nm') : RowOk t oc nm' r :=
  ⟨R.way, R.fop, R.at_, R.was, R.of, R.rd, fun h1 h2 => ⟨h h1 h2, (R.wr h1 h2).2⟩⟩
theorem Good.inW (G : Good t s) (nd : (s.rows.map (·.f)).Nodup) {n : List UInt8} {r : Row} (hr : r ∈ s.rows) : r.f ∈ s.opened.filter (s.isW n) ↔ (wayR r.way = false ∧ r.op = true ∧ r.name = n) := by
  have e : s.isW n r.f = (r.fop && (!wayR r.way) && (r.name == n)) := any_f (g := fun r => r.fop && (!wayR r.way) && (r.name == n)) nd hr
  rw [List.mem_filter, e, (G.rows r hr).fop]
  constructor
  · rintro ⟨_, h⟩
    simp only [Bool.and_eq_true, Bool.not_eq_true', beq_iff_eq] at h
    exact ⟨h.1.2, h.1.1, h.2⟩
  · rintro ⟨h1, h2, h3⟩
    exact ⟨G.opa r hr h2, by rw [h1, h2, h3]; simp⟩
theorem Good.inj1 (G : Good t s) {n : List UInt8} {k k' : Nat} (h : (n, k) ∈ s.names) (h' : (n, k') ∈ s.names) : k = k' := congrArg Prod.snd (nodup_inj G.nk h h' rfl)
theorem Good.inj2 (G : Good t s) {n n' : List UInt8} {k : Nat} (h : (n, k) ∈ s.names) (h' : (n', k) ∈ s.names) : n = n' := congrArg Prod.fst (nodup_inj G.nv h h' rfl)
theorem shutIf_no {k : Nat} {r : Row} (h : ¬ (r.of = k ∧ wayR r.way = false)) : shutIf k r = r := by
  unfold shutIf
  rw [if_neg]
  intro e
  simp only [Bool.and_eq_true, beq_iff_eq, Bool.not_eq_true'] at e
  exact h e
theorem shutIf_yes {k : Nat} {r : Row} (h1 : r.of = k) (h2 : wayR r.way = false) : shutIf k r = r.shut := by
  unfold shutIf
  rw [h1, h2]
  simp
theorem shutIf_f (k : Nat) (r : Row) : (shutIf k r).f = r.f := by unfold shutIf; split <;> rfl
theorem closeAll_map (ws : List Addr) (g : Row → Row) (rows : List Row) : closeAll ws (rows.map g) = rows.map fun r => if (g r).f ∈ ws then (g r).close else g r := by
  unfold closeAll
  rw [List.map_map]
  rfl
theorem Good.gone (G : Good t s) (nd : (s.rows.map (·.f)).Nodup) {n : List UInt8} {k : Nat} (hn : (n, k) ∈ s.names) : Good t { s with names := dropK s.names n, disk := dropK s.disk n, rows := closeAll (s.opened.filter (s.isW n)) (s.rows.map (shutIf k)) } := by
  rw [closeAll_map]
  refine G.map (fun r => ?_) ?_ (dropK_nk G.nk) (dropK_nv G.nv) (fun p hp => G.nlt p (mem_dropK.mp hp).1) (Nat.le_trans dropK_len G.nl) (fun r hr => ?_) (fun r hr h => ?_)
  · show (if (shutIf k r).f ∈ _ then (shutIf k r).close else shutIf k r).f = _
    split
    · exact shutIf_f k r
    · exact shutIf_f k r
  · rw [G.disk]
    exact dropK_map (g := fun j => s.octets.getD j [])
  · have R := G.rows r hr
    show RowOk t s.octets _ (if (shutIf k r).f ∈ _ then (shutIf k r).close else shutIf k r)
    rw [shutIf_f]
    by_cases hw : wayR r.way = false
    · by_cases hop : r.op = true
      · have hin := (R.wr hw hop).1
        by_cases hn' : r.name = n
        · have hk : r.of = k := by rw [hn'] at hin; exact G.inj1 hin hn
          rw [if_pos ((G.inW nd hr).mpr ⟨hw, hop, hn'⟩), shutIf_yes hk hw]
          exact R.closed rfl rfl rfl rfl rfl
        · have hk : r.of ≠ k := fun e => hn' (by rw [e] at hin; exact G.inj2 hin hn)
          rw [if_neg fun h => hn' ((G.inW nd hr).mp h).2.2, shutIf_no fun h => hk h.1]
          exact R.names fun _ _ => mem_dropK.mpr ⟨hin, hn'⟩
      · rw [if_neg fun h => hop ((G.inW nd hr).mp h).2.1]
        have hop' : r.op = false := by simpa using hop
        have hf : r.fop = false := by rw [R.fop, hop']
        unfold shutIf
        split
        · exact R.closed rfl hf rfl rfl rfl
        · exact R.closed hop' hf rfl rfl rfl
    · have hw' : wayR r.way = true := by simpa using hw
      rw [if_neg fun h => hw ((G.inW nd hr).mp h).1, shutIf_no fun h => hw h.2]
      exact R.names fun h => absurd h hw
  · have h' : (if (shutIf k r).f ∈ s.opened.filter (s.isW n) then (shutIf k r).close else shutIf k r).op = true := h
    have h2 : (shutIf k r).op = true := by
      split at h'
      · exact h'
      · exact h'
    unfold shutIf at h2
    split at h2
    · cases h2
    · exact h2
noncomputable def shutO (m : Option Nat) (r : Row) : Row := m.elim r fun k => shutIf k r
theorem shutO_f (m : Option Nat) (r : Row) : (shutO m r).f = r.f := by cases m; rfl; exact shutIf_f _ r
noncomputable def movedRow (s : St) (old fresh : List UInt8) (r : Row) : Row :=
  let r1 := shutO (getK (dropK s.names old) fresh) r
  let r2 := if r.f ∈ closersOf s old fresh then r1.close else r1
  if r.f ∈ s.opened.filter (s.isW old) then r2.ren fresh else r2
theorem moved_rows (s : St) (old fresh : List UInt8) : nameAll fresh (s.opened.filter (s.isW old)) (closeAll (closersOf s old fresh) (s.rows.map (shutO (getK (dropK s.names old) fresh)))) = s.rows.map (movedRow s old fresh) := by
  unfold nameAll
  rw [closeAll_map, List.map_map]
  refine List.map_congr_left fun r _ => ?_
  simp only [Function.comp, movedRow, shutO_f]
  have e : (if r.f ∈ closersOf s old fresh then (shutO (getK (dropK s.names old) fresh) r).close else shutO (getK (dropK s.names old) fresh) r).f = r.f := by
    split
    · exact shutO_f _ r
    · exact shutO_f _ r
  rw [e]
theorem movedRow_f (s : St) (old fresh : List UInt8) (r : Row) : (movedRow s old fresh r).f = r.f := by
  simp only [movedRow]
  split <;> split <;> exact shutO_f _ r
theorem Good.moved (G : Good t s) (nd : (s.rows.map (·.f)).Nodup) {old fresh : List UInt8} {k : Nat} (hn : (old, k) ∈ s.names) : Good t { s with names := putK (dropK s.names old) fresh k, disk := putK (dropK s.disk old) fresh (s.octets.getD k []), rows := s.rows.map (movedRow s old fresh) } := by
  have hkv : k ∉ (dropK s.names old).map (·.2) := fun h => by
    obtain ⟨p, hp, e⟩ := List.mem_map.mp h
    obtain ⟨h1, h2⟩ := mem_dropK.mp hp
    exact h2 (G.inj2 (k := k) (by rw [← e]; exact h1) hn)
  have hmem : ∀ {p : List UInt8 × Nat}, p ∈ putK (dropK s.names old) fresh k → p = (fresh, k) ∨ p ∈ s.names := fun hp => by
    rcases mem_putK.mp hp with h | ⟨h, _⟩
    · exact .inl h
    · exact .inr (mem_dropK.mp h).1
  refine G.map (movedRow_f s old fresh) ?_ (putK_nk (dropK_nk G.nk)) (putK_nv (dropK_nk G.nk) (dropK_nv G.nv) hkv) (fun p hp => ?_) ?_ (fun r hr => ?_) (fun r hr h => ?_)
  · rw [G.disk, dropK_map (g := fun j => s.octets.getD j []), putK_map (g := fun j => s.octets.getD j [])]
  · rcases hmem hp with rfl | hp
    · exact G.nlt (old, k) hn
    · exact G.nlt p hp
  · have h1 := dropK_len_lt (l := s.names) (n := old) (List.mem_map.mpr ⟨(old, k), hn, rfl⟩)
    have h2 := putK_len (l := dropK s.names old) (n := fresh) (v := k)
    have := G.nl
    omega
  · have R := G.rows r hr
    have incl : r.f ∈ closersOf s old fresh ↔ fresh ≠ old ∧ (wayR r.way = false ∧ r.op = true ∧ r.name = fresh) := by
      unfold closersOf
      by_cases e : fresh = old
      · rw [if_pos (by simp [e])]
        exact ⟨fun h => absurd h List.not_mem_nil, fun h => absurd e h.1⟩
      · rw [if_neg (by simp [e]), G.inW nd hr]
        exact ⟨fun h => ⟨e, h⟩, fun h => h.2⟩
    simp only [movedRow]
    by_cases hw : wayR r.way = false
    · by_cases hop : r.op = true
      · have hin := (R.wr hw hop).1
        by_cases h1 : r.name = old
        · have hk : r.of = k := by rw [h1] at hin; exact G.inj1 hin hn
          have hsh : shutO (getK (dropK s.names old) fresh) r = r := by
            cases e : getK (dropK s.names old) fresh with
            | none => rfl
            | some m =>
              refine shutIf_no fun h => ?_
              obtain ⟨h2, h3⟩ := mem_dropK.mp (getK_spec e)
              rw [← h.1, hk] at h2
              exact h3 (G.inj2 h2 hn)
          rw [if_pos ((G.inW nd hr).mpr ⟨hw, hop, h1⟩), if_neg fun h => by
            obtain ⟨h2, _, _, h3⟩ := incl.mp h
            exact h2 (h3.symm.trans h1), hsh]
          exact ⟨R.way, R.fop, R.at_, R.was, R.of, R.rd, fun _ _ => ⟨mem_putK.mpr (.inl (by show (fresh, r.of) = _; rw [hk])), (R.wr hw hop).2⟩⟩
        · rw [if_neg fun h => h1 ((G.inW nd hr).mp h).2.2]
          by_cases h2 : r.name = fresh
          · have h3 : fresh ≠ old := fun e => h1 (h2.trans e)
            have e : getK (dropK s.names old) fresh = some r.of := getK_mem (dropK_nk G.nk) (mem_dropK.mpr ⟨by rw [← h2]; exact hin, h3⟩)
            rw [if_pos (incl.mpr ⟨h3, hw, hop, h2⟩), e]
            show RowOk t s.octets _ (shutIf r.of r).close
            rw [shutIf_yes rfl hw]
            exact R.closed rfl rfl rfl rfl rfl
          · have hsh : shutO (getK (dropK s.names old) fresh) r = r := by
              cases e : getK (dropK s.names old) fresh with
              | none => rfl
              | some m =>
                refine shutIf_no fun h => ?_
                have h3 := (mem_dropK.mp (getK_spec e)).1
                rw [← h.1] at h3
                exact h2 (G.inj2 hin h3)
            rw [if_neg fun h => h2 (incl.mp h).2.2.2, hsh]
            exact R.names fun _ _ => mem_putK.mpr (.inr ⟨mem_dropK.mpr ⟨hin, h1⟩, h2⟩)
      · rw [if_neg fun h => hop ((G.inW nd hr).mp h).2.1, if_neg fun h => hop (incl.mp h).2.2.1]
        have hop' : r.op = false := by simpa using hop
        have hf : r.fop = false := by rw [R.fop, hop']
        cases getK (dropK s.names old) fresh with
        | none => exact R.closed hop' hf rfl rfl rfl
        | some m =>
          show RowOk t s.octets _ (shutIf m r)
          unfold shutIf
          split
          · exact R.closed rfl hf rfl rfl rfl
          · exact R.closed hop' hf rfl rfl rfl
    · have hsh : shutO (getK (dropK s.names old) fresh) r = r := by
        cases getK (dropK s.names old) fresh with
        | none => rfl
        | some m => exact shutIf_no fun h => hw h.2
      rw [if_neg fun h => hw ((G.inW nd hr).mp h).1, if_neg fun h => hw (incl.mp h).2.1, hsh]
      exact R.names fun h => absurd h hw
  · have h2 : (shutO (getK (dropK s.names old) fresh) r).op = true := by
      simp only [movedRow] at h
      split at h <;> split at h <;> exact h
    cases e : getK (dropK s.names old) fresh with
    | none => rw [e] at h2; exact h2
    | some m =>
      rw [e] at h2
      have h3 : (shutIf m r).op = true := h2
      unfold shutIf at h3
      split at h3
      · cases h3
      · exact h3
end
section
variable {c : Cx} {loc : Loc} {σ : MHeap} {α β : Type} {X : MV → MHeap → Prop} {Q : MV → MHeap → Prop} {h h' : Heap} {a d : Addr} {Kt : MF → Loc → MHeap → Prop} {B : Bool → MHeap → Prop}
variable {E : Cells} {s : St} {t : Nat}
theorem isW_hp {s : St} (nd : (s.rows.map (·.f)).Nodup) (ops : ∀ x ∈ s.opened, x ∈ s.rows.map (·.f)) (n : List UInt8) : ∀ x ∈ s.opened, ∃ r ∈ s.rows, r.f = x ∧ s.isW n x = (r.fop && (!wayR r.way) && (r.name == n)) := fun x hx => by
  obtain ⟨r, hr, rfl⟩ := List.mem_map.mp (ops x hx)
  exact ⟨r, hr, rfl, any_f (g := fun r => r.fop && (!wayR r.way) && (r.name == n)) nd hr⟩
theorem isW_map {s s' : St} {g : Row → Row} (e : s'.rows = s.rows.map g) (h : ∀ r, (g r).f = r.f ∧ (g r).fop = r.fop ∧ (g r).way = r.way ∧ (g r).name = r.name) (n : List UInt8) : s'.isW n = s.isW n := by
  funext x
  unfold St.isW
  rw [e, List.any_map]
  congr 1
  funext r
  obtain ⟨h1, h2, h3, h4⟩ := h r
  simp only [Function.comp, h1, h2, h3, h4]
theorem shutIf_same (k : Nat) (r : Row) : (shutIf k r).f = r.f ∧ (shutIf k r).fop = r.fop ∧ (shutIf k r).way = r.way ∧ (shutIf k r).name = r.name := by
  unfold shutIf; split <;> exact ⟨rfl, rfl, rfl, rfl⟩
theorem shutO_same (m : Option Nat) (r : Row) : (shutO m r).f = r.f ∧ (shutO m r).fop = r.fop ∧ (shutO m r).way = r.way ∧ (shutO m r).name = r.name := by
  cases m
  · exact ⟨rfl, rfl, rfl, rfl⟩
  · exact shutIf_same _ r
theorem map_f {g : Row → Row} (h : ∀ r, (g r).f = r.f) (rows : List Row) : (rows.map g).map (·.f) = rows.map (·.f) := by
  rw [List.map_map]; exact List.map_congr_left fun r _ => h r
theorem gone_ok (C : c.Ok) (hH : c.A.handled = none) (hn : 6 ≤ c.n) (I : Inv E s σ) (G : Good t s) (ht : t + 1 ≤ 15) (hk : s.k ≤ 500) (h : ∀ s' σ', Nxt t s s' → Inv E s' σ' → Q (.bool true) σ') : CallR c loc σ (.ref 494) [.ref s.deck, .ref s.own, .ref s.T] Q X := by
  refine call_fn C hH (by omega) (fn494 _) rfl (loc₀ := [(S "deck", .ref s.deck), (S "own", .ref s.own), (S "table", .ref s.T)]) rfl ?_
  intro H n' A frames fr fix L hn' hH' C' F'
  have hn3 : 3 ≤ n' := by omega
  have hn1 : 1 ≤ n' := by omega
  have hcs := G.cs
  have hnl := G.nl
  have hdl := G.dl
  have hol := G.opl
  have hrl := G.rl
  refine S_join (K1 := fun l σ' => ∃ told, told ∈ names9 ∧ l = [(S "told", .bytes told), (S "deck", .ref s.deck), (S "own", .ref s.own), (S "table", .ref s.T)] ∧ Inv E { s with k := s.k + 1 } σ') ?_ ?_
  · refine S_name C' ?_ (by kernel_rfl) (by kernel_rfl)
    refine E_pickN (b := 6) C' hH' hn1 .head (by kernel_rfl) (by kernel_rfl) (by kernel_rfl) I (by omega) (by omega) (by decide) (by decide) fun told σ1 h1 I1 => ?_
    exact ⟨_, by walk_at "wipe", rfl, told, h1, rfl, I1⟩
  rintro _ σ1 ⟨told, hto, rfl, I1⟩
  have htl := names_len told hto
  have nd := I1.fs_nodup
  refine S_seq ?_
  refine S_swap (names := [S "named", S "due"]) hH' ?_ (by kernel_rfl) (by kernel_rfl)
  repeat' walk_at "v"
  refine plain_ok C' hH' hn1 (by omega) ?_
  repeat' walk_at "v"
  refine ⟨leB (by kernel_rfl), rfl, A_cons fun u hu => A_bind C' hu (by walk_at "wipe") (A_cons fun u hu => A_bind C' hu (by walk_at "wipe") (A_nil ?_) (by kernel_rfl)) (by kernel_rfl)⟩
  refine K_next ?_
  refine S_seq ?_
  obtain ⟨hdeck, hcA, hown, hnm, hocA, hrwA, hT, htd, hdk, hopA⟩ := I1.all
  have hlk := G.look (plain told)
  repeat' walk_at "v"
  refine o_in_bd C' (es := s.names.map fun (p : List UInt8 × Nat) => (p.1, MV.int (p.2 : Int))) hnm ?_
  rw [getK_map (g := fun k : Nat => MV.int k), Option.isSome_map]
  repeat' walk_at "v"
  cases hg : getK s.names (plain told) with
  | none =>
    rw [hg] at hlk
    refine ite_f ?_
    refine S_nil ?_
    refine K_next ?_
    refine S_seq ?_
    refine try_core (Kt := seqK _ _ _ _) (XB := fun told σ' => told = .bytes b_undefinedfilename ∧ Inv E { s with k := s.k + 1 } σ') (locE := [(S "named", .bytes (plain told)), (S "due", .bytes b_undefinedfilename), (S "told", .bytes told), (S "deck", .ref s.deck), (S "own", .ref s.own), (S "table", .ref s.T)]) (loc' := [(S "named", .bytes (plain told)), (S "due", .bytes b_undefinedfilename), (S "told", .bytes told), (S "deck", .ref s.deck), (S "own", .ref s.own), (S "table", .ref s.T)]) C' F' hH' (TB_expr ?_ (by kernel_rfl) (by kernel_rfl)) (by walk_at "wipe") ?_ (by kernel_rfl) (by kernel_rfl)
    · repeat' walk_at "v"
      refine ⟨_, _, by kernel_rfl, m_inst C' hT htd (f := 396) (by kernel_rfl) (by kernel_rfl), ?_⟩
      repeat' walk_at "v"
      refine delete_ok (s := { s with k := s.k + 1 }) C' hH' hn3 I1 (by omega) (Nat.le_trans hdl (by decide)) (G.isW nd _) (by show s.opened.length ≤ 100; have := G.tle; omega) (fun hk => ?_) (fun _ e he => ⟨rfl, I1.garbage he⟩)
      rw [show (getK s.disk (plain told)).isSome = false by rw [hlk]; rfl] at hk
      cases hk
    · rintro _ σ' a ed A' ⟨rfl, I6⟩ ha hed c' Cc
      have hne : ed ≠ a := ne_fresh hed ha
      refine S_last ?_
      refine S_ret ?_
      refine E_compare ?_ (by kernel_rfl)
      repeat' walk_at "v"
      refine a_toldR Cc (upd_self _ _ _) (at_ne hed hne) rfl ?_
      repeat' walk_at "v"
      refine h _ _ ?_ (I6.garbage ha)
      exact ⟨rfl, rfl, rfl, Nat.le_succ _, G.up ht _⟩
  | some k =>
    rw [hg] at hlk
    have hin := getK_spec hg
    refine ite_t ?_
    refine S_seq ?_
    repeat' walk_at "v"
    refine ⟨_, _, by kernel_rfl, m_dpop hnm, ?_⟩
    repeat' walk_at "v"
    refine c_pop hnm (v := .int k) (by rw [List.length_map]; show s.names.length ≤ 1000000; have := G.tle; omega) (by rw [getK_map (g := fun k : Nat => MV.int k), hg]; rfl) ?_
    have I2 := I1.setnames (dropK s.names (plain told))
    unfold bdN at I2
    rw [← dropK_map (g := fun k : Nat => MV.int k)] at I2
    repeat' walk_at "v"
    refine shut_ok (s := { s with k := s.k + 1, names := dropK s.names (plain told) }) C' hH' hn1 I2 (by show s.rows.length ≤ 1000; have := G.tle; omega) fun σ3 I3 => ?_
    obtain ⟨hdeck3, hcA3, hown3, hnm3, hocA3, hrwA3, hT3, htd3, hdk3, hopA3⟩ := I3.all
    repeat' walk_at "v"
    refine K_next ?_
    refine S_last ?_
    repeat' walk_at "v"
    refine K_next ?_
    refine S_seq ?_
    refine try_core (Kt := seqK _ _ _ _) (XB := fun _ _ => False) (locE := [(S "due", .none), (S "named", .bytes (plain told)), (S "told", .bytes told), (S "deck", .ref s.deck), (S "own", .ref s.own), (S "table", .ref s.T)]) (loc' := [(S "due", .none), (S "named", .bytes (plain told)), (S "told", .bytes told), (S "deck", .ref s.deck), (S "own", .ref s.own), (S "table", .ref s.T)]) C' F' hH' (TB_expr ?_ (by kernel_rfl) (by kernel_rfl)) (by walk_at "wipe") (fun _ _ _ _ _ hX => hX.elim) (by kernel_rfl) (by kernel_rfl)
    repeat' walk_at "v"
    refine ⟨_, _, by kernel_rfl, m_inst C' hT3 htd3 (f := 396) (by kernel_rfl) (by kernel_rfl), ?_⟩
    repeat' walk_at "v"
    have hW := isW_map (s := s) (s' := { s with k := s.k + 1, names := dropK s.names (plain told), rows := s.rows.map (shutIf k) }) rfl (shutIf_same k) (plain told)
    refine delete_ok (s := { s with k := s.k + 1, names := dropK s.names (plain told), rows := s.rows.map (shutIf k) }) C' hH' hn3 I3 (by omega) (Nat.le_trans hdl (by decide)) (isW_hp I3.fs_nodup (fun x hx => by show x ∈ (s.rows.map (shutIf k)).map (·.f); rw [map_f (shutIf_f k)]; exact G.ops x hx) _) (by show s.opened.length ≤ 100; have := G.tle; omega) (fun hk σ4 I4 => ?_) (fun hk => by
      rw [show (getK s.disk (plain told)).isSome = true by rw [hlk]; rfl] at hk
      cases hk)
    rw [hW] at I4
    repeat' walk_at "w"
    refine h _ _ ?_ I4
    exact ⟨rfl, rfl, rfl, Nat.le_succ _, (((G.setk (s.k + 1)).gone nd hin).up ht _)⟩
end
section
variable {c : Cx} {loc : Loc} {σ : MHeap} {α β : Type} {X : MV → MHeap → Prop} {Q : MV → MHeap → Prop} {h h' : Heap} {a d : Addr} {Kt : MF → Loc → MHeap → Prop} {B : Bool → MHeap → Prop}
variable {E : Cells} {s : St} {t : Nat}
noncomputable def dueMove (s : St) (old fresh : List UInt8) : List (List UInt8) := ((if (getK s.names old).isSome = true then [] else [b_undefinedfilename]) ++ (if (fresh == [] || fresh == [37, 120]) = true then [b_invalidfileaccess] else [])) ++ (if decide ((255 : Int) < (fresh.length : Int)) = true then [b_limitcheck] else [])
theorem any_two (x : List UInt8) : ([[], [37, 120]].any fun y => decide (y = x)) = (x == [] || x == [37, 120]) := by
  rw [List.any_cons, List.any_cons, List.any_nil, Bool.or_false]
  congr 1
  · rw [Bool.eq_iff_iff, decide_eq_true_iff, beq_iff_eq]; exact eq_comm
  · rw [Bool.eq_iff_iff, decide_eq_true_iff, beq_iff_eq]; exact eq_comm
theorem moved_ok (C : c.Ok) (hH : c.A.handled = none) (hn : 6 ≤ c.n) (I : Inv E s σ) (G : Good t s) (ht : t + 1 ≤ 15) (hk : s.k ≤ 500) (h : ∀ s' σ', Nxt t s s' → Inv E s' σ' → Q (.bool true) σ') : CallR c loc σ (.ref 487) [.ref s.deck, .ref s.own, .ref s.T] Q X := by
  refine call_fn C hH (by omega) (fn487 _) rfl (loc₀ := [(S "deck", .ref s.deck), (S "own", .ref s.own), (S "table", .ref s.T)]) rfl ?_
  intro H n' A frames fr fix L hn' hH' C' F'
  have hn3 : 3 ≤ n' := by omega
  have hn1 : 1 ≤ n' := by omega
  have hcs := G.cs
  have hnl : s.names.length ≤ 1000 := by have := G.nl; have := G.tle; omega
  have hdl : s.disk.length ≤ 1000 := Nat.le_trans G.dl (by decide)
  have hol : s.opened.length ≤ 100 := by have := G.opl; have := G.tle; omega
  have hrl : s.rows.length ≤ 1000 := by have := G.rl; have := G.tle; omega
  refine S_join (K1 := fun l σ' => ∃ told other, told ∈ names9 ∧ other ∈ names9 ∧ l = [(S "told", .bytes told), (S "other", .bytes other), (S "deck", .ref s.deck), (S "own", .ref s.own), (S "table", .ref s.T)] ∧ Inv E { s with k := s.k + 2 } σ') ?_ ?_
  · refine S_swap (names := [S "told", S "other"]) hH' ?_ (by kernel_rfl) (by kernel_rfl)
    refine Args_cons ?_ (by kernel_rfl)
    refine E_pickN (b := 6) C' hH' hn1 .head (by kernel_rfl) (by kernel_rfl) (by kernel_rfl) I (by omega) (by omega) (by decide) (by decide) fun told σ1 h1 I1 => ?_
    refine Args_cons ?_ (by kernel_rfl)
    refine E_pickN (s := { s with k := s.k + 1 }) (b := 9) C' hH' hn1 .head (by kernel_rfl) (by kernel_rfl) (by kernel_rfl) I1 (by show s.k + 1 ≤ 1000; omega) (by show s.cs.length ≤ 1000; omega) (by decide) (by decide) fun other σ2 h2 I2 => ?_
    refine Args_nil ?_
    refine ⟨leB (by kernel_rfl), rfl, A_cons fun u hu => A_bind C' hu (by walk_at "wipe") (A_cons fun u hu => A_bind C' hu (by walk_at "wipe") (A_nil ?_) (by kernel_rfl)) (by kernel_rfl)⟩
    exact ⟨rfl, told, other, h1, h2, rfl, I2⟩
  rintro _ σ1 ⟨told, other, hto, hot, rfl, I1⟩
  have htl := names_len told hto
  have hotl := names_len other hot
  have hN := names_NameOk hot
  have hfl := hN.len
  have nd := I1.fs_nodup
  refine S_seq ?_
  refine S_swap (names := [S "old", S "fresh", S "due"]) hH' ?_ (by kernel_rfl) (by kernel_rfl)
  repeat' walk_at "v"
  refine plain_ok C' hH' hn1 (by omega) ?_
  repeat' walk_at "v"
  refine plain_ok C' hH' hn1 (by omega) ?_
  repeat' walk_at "v"
  refine E_list C' ?_
  repeat' walk_at "v"
  refine ⟨leB rfl, fun du hdu => ?_⟩
  repeat' walk_at "v"
  have I2 := I1.push (o := .list []) hdu
  refine ⟨leB (by kernel_rfl), rfl, A_cons fun u hu => A_bind C' hu (by walk_at "wipe") (A_cons fun u hu => A_bind C' hu (by walk_at "wipe") (A_cons fun u hu => A_bind C' hu (by walk_at "wipe") (A_nil ?_) (by kernel_rfl)) (by kernel_rfl)) (by kernel_rfl)⟩
  refine K_next ?_
  refine S_join (K1 := fun l σ' => l = [(S "old", .bytes (plain told)), (S "fresh", .bytes (plain other)), (S "due", .ref du), (S "told", .bytes told), (S "other", .bytes other), (S "deck", .ref s.deck), (S "own", .ref s.own), (S "table", .ref s.T)] ∧ Inv ((du, .list ((if (getK s.names (plain told)).isSome = true then [] else [b_undefinedfilename]).map .bytes)) :: E) { s with k := s.k + 2 } σ') ?_ ?_
  · obtain ⟨hdeck, hcA, hown, hnm, hocA, hrwA, hT, htd, hdk, hopA⟩ := I2.all
    have hd := I2.frame (.head _)
    repeat' walk_at "v"
    refine o_notin_bd C' (es := s.names.map fun (p : List UInt8 × Nat) => (p.1, MV.int (p.2 : Int))) hnm ?_
    rw [getK_map (g := fun k : Nat => MV.int k), Option.isSome_map]
    repeat' walk_at "v"
    cases hg : (getK s.names (plain told)).isSome
    · refine ite_t ?_
      refine S_last ?_
      repeat' walk_at "v"
      refine ⟨_, _, by kernel_rfl, m_append hd, ?_⟩
      repeat' walk_at "v"
      refine c_append hd (by simp) ?_
      exact ⟨rfl, rfl, I2.setE⟩
    · refine ite_f ?_
      refine S_nil ?_
      exact ⟨rfl, rfl, I2⟩
  rintro _ σ2 ⟨rfl, I3⟩
  refine S_join (K1 := fun l σ' => l = [(S "old", .bytes (plain told)), (S "fresh", .bytes (plain other)), (S "due", .ref du), (S "told", .bytes told), (S "other", .bytes other), (S "deck", .ref s.deck), (S "own", .ref s.own), (S "table", .ref s.T)] ∧ Inv ((du, .list (((if (getK s.names (plain told)).isSome = true then [] else [b_undefinedfilename]) ++ (if (plain other == [] || plain other == [37, 120]) = true then [b_invalidfileaccess] else [])).map .bytes)) :: E) { s with k := s.k + 2 } σ') ?_ ?_
  · have hd := I3.frame (.head _)
    repeat' walk_at "v"
    refine E_tuple C' ?_
    repeat' walk_at "v"
    refine ⟨leB (by kernel_rfl), fun z hz => ?_⟩
    have I4 := I3.garbage (o := .tup [.bytes [], .bytes [37, 120]]) hz
    have hd4 := at_ne (o := .tup [.bytes [], .bytes [37, 120]]) hd (ne_fresh hd hz)
    refine o_in_tup (ys := [[], [37, 120]]) (Has.of (upd_self _ _ _)) ?_
    rw [any_two]
    repeat' walk_at "v"
    cases hg : (plain other == [] || plain other == [37, 120])
    · refine ite_f ?_
      refine S_nil ?_
      refine ⟨rfl, rfl, ?_⟩
      rw [if_neg Bool.false_ne_true, List.append_nil]
      exact I4
    · refine ite_t ?_
      refine S_last ?_
      repeat' walk_at "v"
      refine ⟨_, _, by kernel_rfl, m_append hd4, ?_⟩
      repeat' walk_at "v"
      refine c_append hd4 (by split <;> simp) ?_
      refine ⟨rfl, rfl, ?_⟩
      rw [if_pos rfl, List.map_append]
      exact I4.setE
  rintro _ σ3 ⟨rfl, I4⟩
  refine S_join (K1 := fun l σ' => l = [(S "old", .bytes (plain told)), (S "fresh", .bytes (plain other)), (S "due", .ref du), (S "told", .bytes told), (S "other", .bytes other), (S "deck", .ref s.deck), (S "own", .ref s.own), (S "table", .ref s.T)] ∧ Inv ((du, .list ((dueMove s (plain told) (plain other)).map .bytes)) :: E) { s with k := s.k + 2 } σ') ?_ ?_
  · have hd := I4.frame (.head _)
    unfold dueMove
    repeat' walk_at "v"
    refine c_len_bytes (by omega) ?_
    repeat' walk_at "v"
    cases hg : decide ((255 : Int) < ((plain other).length : Int))
    · refine ite_f ?_
      refine S_nil ?_
      refine ⟨rfl, rfl, ?_⟩
      rw [if_neg Bool.false_ne_true, List.append_nil]
      exact I4
    · refine ite_t ?_
      refine S_last ?_
      repeat' walk_at "v"
      refine ⟨_, _, by kernel_rfl, m_append hd, ?_⟩
      repeat' walk_at "v"
      refine c_append hd (by split <;> split <;> simp) ?_
      refine ⟨rfl, rfl, ?_⟩
      rw [if_pos rfl, List.map_append]
      exact I4.setE
  rintro _ σ4 ⟨rfl, I5⟩
  have hd5 := I5.frame (.head _)
  have hlk := G.look (plain told)
  have hlk' : (getK s.disk (plain told)).isSome = (getK s.names (plain told)).isSome := by rw [hlk, Option.isSome_map]
  refine S_seq ?_
  refine S_if ?_
  refine B_compare ?_ (by kernel_rfl)
  repeat' walk_at "v"
  refine E_list C' ?_
  repeat' walk_at "v"
  refine ⟨leB rfl, fun z hz => ?_⟩
  have I6 := I5.garbage (o := .list []) hz
  refine o_eq_nil C' (at_ne hd5 (ne_fresh hd5 hz)) (upd_self _ _ _) ?_
  by_cases hg : (getK s.names (plain told)).isSome = true ∧ (plain other == [] || plain other == [37, 120]) = false ∧ (plain other).length ≤ 255
  · obtain ⟨g1, g2, g3⟩ := hg
    have e2 : dueMove s (plain told) (plain other) = [] := by
      unfold dueMove
      rw [g1, g2, decide_eq_false (by omega)]
      rfl
    rw [e2] at I6 ⊢
    clear I1 I2 I3 I4 hd5 e2
    obtain ⟨k, hgk⟩ := isSome_ex g1
    have hin := getK_spec hgk
    obtain ⟨hdeck, hcA, hown, hnm, hocA, hrwA, hT, htd, hdk, hopA⟩ := I6.all
    refine t_bool ?_
    refine ite_t ?_
    refine S_join (K1 := fun l σ' => l = (S "number", .int k) :: [(S "old", .bytes (plain told)), (S "fresh", .bytes (plain other)), (S "due", .ref du), (S "told", .bytes told), (S "other", .bytes other), (S "deck", .ref s.deck), (S "own", .ref s.own), (S "table", .ref s.T)] ∧ Inv ((du, .list []) :: E) { s with k := s.k + 2, names := dropK s.names (plain told) } σ') ?_ ?_
    · repeat' walk_at "v"
      refine ⟨_, _, by kernel_rfl, m_dpop hnm, ?_⟩
      repeat' walk_at "v"
      refine c_pop hnm (v := .int k) (by rw [List.length_map]; show s.names.length ≤ 1000000; omega) (by rw [getK_map (g := fun k : Nat => MV.int k), hgk]; rfl) ?_
      have I7 := I6.setnames (dropK s.names (plain told))
      unfold bdN at I7
      rw [← dropK_map (g := fun k : Nat => MV.int k)] at I7
      exact ⟨_, by walk_at "wipe", rfl, rfl, I7⟩
    rintro _ σ6 ⟨rfl, I7⟩
    refine S_join (K1 := fun l σ' => l = (S "number", .int k) :: [(S "old", .bytes (plain told)), (S "fresh", .bytes (plain other)), (S "due", .ref du), (S "told", .bytes told), (S "other", .bytes other), (S "deck", .ref s.deck), (S "own", .ref s.own), (S "table", .ref s.T)] ∧ Inv ((du, .list []) :: E) { s with k := s.k + 2, names := dropK s.names (plain told), rows := s.rows.map (shutO (getK (dropK s.names (plain told)) (plain other))) } σ') ?_ ?_
    · obtain ⟨hdeck7, hcA7, hown7, hnm7, hocA7, hrwA7, hT7, htd7, hdk7, hopA7⟩ := I7.all
      repeat' walk_at "v"
      refine o_in_bd C' (es := (dropK s.names (plain told)).map fun (p : List UInt8 × Nat) => (p.1, MV.int (p.2 : Int))) hnm7 ?_
      rw [getK_map (g := fun k : Nat => MV.int k), Option.isSome_map]
      repeat' walk_at "v"
      cases hm : getK (dropK s.names (plain told)) (plain other) with
      | none =>
        refine ite_f ?_
        refine S_nil ?_
        refine ⟨rfl, rfl, ?_⟩
        rw [show s.rows.map (shutO none) = s.rows from List.map_id' s.rows]
        exact I7
      | some m =>
        refine ite_t ?_
        refine S_last ?_
        repeat' walk_at "v"
        refine i_bd (es := (dropK s.names (plain told)).map fun (p : List UInt8 × Nat) => (p.1, MV.int (p.2 : Int))) (v := .int m) hnm7 (by rw [getK_map (g := fun k : Nat => MV.int k), hm]; rfl) ?_
        repeat' walk_at "v"
        refine shut_ok (s := { s with k := s.k + 2, names := dropK s.names (plain told) }) C' hH' hn1 I7 hrl fun σ7 I8 => ?_
        exact ⟨rfl, rfl, I8⟩
    rintro _ σ7 ⟨rfl, I8⟩
    obtain ⟨hdeck8, hcA8, hown8, hnm8, hocA8, hrwA8, hT8, htd8, hdk8, hopA8⟩ := I8.all
    have hdn := dropK_len (l := s.names) (n := plain told)
    refine S_last ?_
    repeat' walk_at "v"
    refine p_bd hnm8 (by rw [List.length_map]; show (dropK s.names (plain told)).length ≤ 1000000; omega) ?_
    have I9 := I8.setnames (putK (dropK s.names (plain told)) (plain other) k)
    unfold bdN at I9
    rw [← putK_map (g := fun k : Nat => MV.int k)] at I9
    obtain ⟨hdeck9, hcA9, hown9, hnm9, hocA9, hrwA9, hT9, htd9, hdk9, hopA9⟩ := I9.all
    refine K_next ?_
    refine S_seq ?_
    refine try_core (Kt := seqK _ _ _ _) (XB := fun _ _ => False) (locE := (S "number", .int k) :: [(S "old", .bytes (plain told)), (S "fresh", .bytes (plain other)), (S "due", .ref du), (S "told", .bytes told), (S "other", .bytes other), (S "deck", .ref s.deck), (S "own", .ref s.own), (S "table", .ref s.T)]) (loc' := (S "number", .int k) :: [(S "old", .bytes (plain told)), (S "fresh", .bytes (plain other)), (S "due", .ref du), (S "told", .bytes told), (S "other", .bytes other), (S "deck", .ref s.deck), (S "own", .ref s.own), (S "table", .ref s.T)]) C' F' hH' (TB_expr ?_ (by kernel_rfl) (by kernel_rfl)) (by walk_at "wipe") (fun _ _ _ _ _ hX => hX.elim) (by kernel_rfl) (by kernel_rfl)
    repeat' walk_at "v"
    refine ⟨_, _, by kernel_rfl, m_inst C' hT9 htd9 (f := 403) (by kernel_rfl) (by kernel_rfl), ?_⟩
    repeat' walk_at "v"
    have hW := isW_map (s := s) (s' := { s with k := s.k + 2, names := putK (dropK s.names (plain told)) (plain other) k, rows := s.rows.map (shutO (getK (dropK s.names (plain told)) (plain other))) }) rfl (shutO_same _)
    refine rename_ok (s := { s with k := s.k + 2, names := putK (dropK s.names (plain told)) (plain other) k, rows := s.rows.map (shutO (getK (dropK s.names (plain told)) (plain other))) }) C' hH' hn3 I9 (by omega) (by omega) hN hdl (isW_hp I9.fs_nodup (fun x hx => by show x ∈ (s.rows.map (shutO _)).map (·.f); rw [map_f (shutO_f _)]; exact G.ops x hx)) hol (fun o hko _ _ σ8 I10 => ?_) (fun b hb => ?_)
    · have ho : o = s.octets.getD k [] := by
        have e : getK s.disk (plain told) = some o := hko
        rw [hlk, hgk] at e
        exact (Option.some.inj e).symm
      have hcl : closersOf { s with k := s.k + 2, names := putK (dropK s.names (plain told)) (plain other) k, rows := s.rows.map (shutO (getK (dropK s.names (plain told)) (plain other))) } (plain told) (plain other) = closersOf s (plain told) (plain other) := by
        unfold closersOf
        rw [hW]
      rw [hcl, hW, moved_rows, ho] at I10
      refine K_next ?_
      refine S_last ?_
      refine S_ret ?_
      refine E_compare ?_ (by kernel_rfl)
      repeat' walk_at "v"
      refine E_list C' ?_
      repeat' walk_at "v"
      refine ⟨leB rfl, fun z2 hz2 => ?_⟩
      refine o_eq_nil C' (at_ne (I10.frame (.head _)) (ne_fresh (I10.frame (.head _)) hz2)) (upd_self _ _ _) ?_
      refine h _ _ ?_ (I10.garbage hz2).pop
      exact ⟨rfl, rfl, rfl, Nat.le_refl _, (((G.setk (s.k + 2)).moved nd hin).up ht _)⟩
    · exfalso
      rcases hb with ⟨_, hb⟩ | ⟨_, hb⟩ | ⟨_, hb⟩
      · rw [show (getK s.disk (plain told)).isSome = true by rw [hlk']; exact g1] at hb
        cases hb
      · rw [g2] at hb; cases hb
      · omega
  · have e2 : ((dueMove s (plain told) (plain other)).map MV.bytes).isEmpty = false := by
      unfold dueMove
      cases g1 : (getK s.names (plain told)).isSome
      · rfl
      · cases g2 : (plain other == [] || plain other == [37, 120])
        · rw [decide_eq_true (by
            have : ¬ (plain other).length ≤ 255 := fun h3 => hg ⟨g1, g2, h3⟩
            omega)]
          rfl
        · rfl
    rw [e2]
    refine t_bool ?_
    refine ite_f ?_
    refine S_nil ?_
    refine K_next ?_
    refine S_seq ?_
    refine try_core (Kt := seqK _ _ _ _) (XB := fun told' σ' => Inv ((du, .list ((dueMove s (plain told) (plain other)).map .bytes)) :: E) { s with k := s.k + 2 } σ' ∧ ∃ b, told' = .bytes b ∧ b ∈ dueMove s (plain told) (plain other)) (locE := [(S "old", .bytes (plain told)), (S "fresh", .bytes (plain other)), (S "due", .ref du), (S "told", .bytes told), (S "other", .bytes other), (S "deck", .ref s.deck), (S "own", .ref s.own), (S "table", .ref s.T)]) (loc' := [(S "old", .bytes (plain told)), (S "fresh", .bytes (plain other)), (S "due", .ref du), (S "told", .bytes told), (S "other", .bytes other), (S "deck", .ref s.deck), (S "own", .ref s.own), (S "table", .ref s.T)]) C' F' hH' (TB_expr ?_ (by kernel_rfl) (by kernel_rfl)) (by walk_at "wipe") ?_ (by kernel_rfl) (by kernel_rfl)
    · obtain ⟨hdeck, hcA, hown, hnm, hocA, hrwA, hT, htd, hdk, hopA⟩ := I6.all
      repeat' walk_at "v"
      refine ⟨_, _, by kernel_rfl, m_inst C' hT htd (f := 403) (by kernel_rfl) (by kernel_rfl), ?_⟩
      repeat' walk_at "v"
      refine rename_ok (s := { s with k := s.k + 2 }) C' hH' hn3 I6 (by omega) (by omega) hN hdl (isW_hp nd G.ops) hol (fun o hko g2 g3 σ8 I10 => ?_) (fun b hb e he => ⟨I6.garbage he, _, rfl, ?_⟩)
      · exact absurd ⟨by rw [← hlk', show getK s.disk (plain told) = some o from hko]; rfl, g2, g3⟩ hg
      · unfold dueMove
        rcases hb with ⟨rfl, hb⟩ | ⟨rfl, hb⟩ | ⟨rfl, hb⟩
        · rw [← hlk', show (getK s.disk (plain told)).isSome = false from hb]
          exact List.mem_append_left _ (List.mem_append_left _ (.head _))
        · rw [hb]
          exact List.mem_append_left _ (List.mem_append_right _ (.head _))
        · rw [decide_eq_true (by omega)]
          exact List.mem_append_right _ (.head _)
    · rintro told' σ' a ed A' ⟨I7, b, rfl, hb⟩ ha hed c' Cc
      have hne : ed ≠ a := ne_fresh hed ha
      have hdu := I7.frame (.head _)
      refine S_last ?_
      refine S_ret ?_
      refine E_compare ?_ (by kernel_rfl)
      repeat' walk_at "v"
      refine a_toldR Cc (upd_self _ _ _) (at_ne hed hne) rfl ?_
      repeat' walk_at "v"
      refine o_in_list (at_ne hdu (ne_fresh hdu ha)) ?_
      rw [show ((dueMove s (plain told) (plain other)).any fun y => decide (y = b)) = true from List.any_eq_true.mpr ⟨b, hb, by simp⟩]
      refine h _ _ ?_ (I7.garbage ha).pop
      exact ⟨rfl, rfl, rfl, Nat.le_refl _, G.up ht _⟩
end
section
variable {c : Cx} {loc : Loc} {σ : MHeap} {α β : Type} {X : MV → MHeap → Prop} {Q : MV → MHeap → Prop} {h h' : Heap} {a d : Addr} {Kt : MF → Loc → MHeap → Prop} {B : Bool → MHeap → Prop}
variable {s : St} {t : Nat}
noncomputable def ww (acc : List UInt8) : Bool := acc == [119] || acc == [119, 43]
noncomputable def namesO (s : St) (n : List UInt8) : List (List UInt8 × Nat) := if (getK s.names n).isSome = true then s.names else putK s.names n s.octets.length
noncomputable def octA (s : St) (n : List UInt8) : List (List UInt8) := if (getK s.names n).isSome = true then s.octets else s.octets ++ [[]]
noncomputable def numO (s : St) (n : List UInt8) : Nat := (getK s.names n).getD s.octets.length
noncomputable def octO (s : St) (n acc : List UInt8) : List (List UInt8) := if ww acc = true then (octA s n).set (numO s n) [] else octA s n
noncomputable def rewindIf (k : Nat) (r : Row) : Row := if (r.of == k && (!wayR r.way && r.op)) = true then { r with at_ := 0, fat := 0, place := 0, last := .none } else r
noncomputable def rowsO (s : St) (n acc : List UInt8) : List Row := if ww acc = true then s.rows.map (rewindIf (numO s n)) else s.rows
theorem getD_app {l : List (List UInt8)} {j : Nat} (h : j < l.length) : (l ++ [[]]).getD j [] = l.getD j [] := by
  rw [List.getD_eq_getElem?_getD, List.getD_eq_getElem?_getD, List.getElem?_append_left h]
theorem getD_end {l : List (List UInt8)} : (l ++ [[]]).getD l.length [] = [] := by
  rw [List.getD_eq_getElem?_getD, List.getElem?_append_right (Nat.le_refl _), Nat.sub_self]
  rfl
/- what stands behind an opening, of the law's own part -/
structure Opn (s : St) (n acc : List UInt8) : Prop where
  inn : (n, numO s n) ∈ namesO s n
  sub : ∀ p ∈ s.names, p ∈ namesO s n
  all : ∀ p ∈ namesO s n, p = (n, numO s n) ∨ p ∈ s.names
  nk : ((namesO s n).map (·.1)).Nodup
  nv : ((namesO s n).map (·.2)).Nodup
  len : s.octets.length ≤ (octO s n acc).length ∧ (octO s n acc).length ≤ s.octets.length + 1
  num : numO s n < (octO s n acc).length
  nl : (namesO s n).length ≤ s.names.length + 1
  disk : diskOpen s n acc = (namesO s n).map fun p => (p.1, (octO s n acc).getD p.2 [])
  old : ∀ j, j < s.octets.length → (j = numO s n ∧ ww acc = true) ∨ (octO s n acc).getD j [] = s.octets.getD j []
  oc : ∀ o ∈ octO s n acc, o = [] ∨ o ∈ s.octets
theorem Good.opn2 (G : Good t s) (n acc : List UInt8) : Opn s n acc := by
  have hlk := G.look n
  cases hg : getK s.names n with
  | some k =>
    have hin := getK_spec hg
    have hlt := G.nlt _ hin
    have e1 : namesO s n = s.names := by unfold namesO; rw [hg]; rfl
    have e2 : octA s n = s.octets := by unfold octA; rw [hg]; rfl
    have e3 : numO s n = k := by unfold numO; rw [hg]; rfl
    have e4 : (getK s.disk n).isSome = true := by rw [hlk, hg]; rfl
    have e5 : octO s n acc = if ww acc = true then s.octets.set k [] else s.octets := by unfold octO; rw [e2, e3]
    have e6 : (octO s n acc).length = s.octets.length := by rw [e5]; split; rw [List.length_set]; rfl
    refine ⟨by rw [e1, e3]; exact hin, fun p hp => by rw [e1]; exact hp, fun p hp => .inr (by rw [e1] at hp; exact hp), by rw [e1]; exact G.nk, by rw [e1]; exact G.nv, by rw [e6]; exact ⟨Nat.le_refl _, Nat.le_succ _⟩, by rw [e6, e3]; exact hlt, by rw [e1]; exact Nat.le_succ _, ?_, fun j hj => ?_, fun o ho => ?_⟩
    · rw [e1, e5]
      unfold diskOpen
      rw [e4]
      show (if (ww acc || !true) = true then _ else _) = _
      cases ww acc
      · exact G.disk
      · show putK s.disk n [] = (s.names.map fun p => (p.1, (s.octets.set k []).getD p.2 []))
        rw [G.disk]
        exact (disk_set G.nk G.nv hin hlt).symm
    · rw [e3, e5]
      cases ww acc
      · exact .inr rfl
      · by_cases h : j = k
        · exact .inl ⟨h, rfl⟩
        · rw [if_pos rfl, getD_set hlt, if_neg h]
          exact .inr rfl
    · rw [e5] at ho
      split at ho
      · rcases List.mem_or_eq_of_mem_set ho with h | h
        · exact .inr h
        · exact .inl h
      · exact .inr ho
  | none =>
    have hno := getK_none hg
    have e1 : namesO s n = s.names ++ [(n, s.octets.length)] := by unfold namesO; rw [hg]; exact putK_new hno
    have e2 : octA s n = s.octets ++ [[]] := by unfold octA; rw [hg]; rfl
    have e3 : numO s n = s.octets.length := by unfold numO; rw [hg]; rfl
    have e4 : (getK s.disk n).isSome = false := by rw [hlk, hg]; rfl
    have e5 : octO s n acc = s.octets ++ [[]] := by
      unfold octO
      rw [e2, e3]
      split
      · rw [List.set_append_right _ _ (Nat.le_refl _), Nat.sub_self]; rfl
      · rfl
    have hlen : (s.octets ++ [[]]).length = s.octets.length + 1 := by simp
    refine ⟨by rw [e1, e3]; exact List.mem_append_right _ (.head _), fun p hp => by rw [e1]; exact List.mem_append_left _ hp, fun p hp => ?_, ?_, ?_, by rw [e5, hlen]; exact ⟨Nat.le_succ _, Nat.le_refl _⟩, by rw [e5, hlen, e3]; exact Nat.lt_succ_self _, by rw [e1]; simp, ?_, fun j hj => .inr (by rw [e5]; exact getD_app hj), fun o ho => ?_⟩
    · rw [e1, List.mem_append, List.mem_singleton] at hp
      rw [e3]
      exact hp.symm
    · have := putK_nk (n := n) (v := s.octets.length) G.nk
      rw [putK_new hno] at this
      rw [e1]; exact this
    · have := putK_nv (n := n) (v := s.octets.length) G.nk G.nv (fun h => by
        obtain ⟨p, hp, e⟩ := List.mem_map.mp h
        have := G.nlt p hp
        omega)
      rw [putK_new hno] at this
      rw [e1]; exact this
    · rw [e1, e5]
      unfold diskOpen
      rw [e4, Bool.not_false, Bool.or_true, if_pos rfl, putK_new (by rw [G.disk, List.map_map]; exact hno), List.map_append, G.disk]
      congr 1
      · exact List.map_congr_left fun p hp => by rw [getD_app (G.nlt p hp)]
      · show [(n, ([] : List UInt8))] = [(n, (s.octets ++ [[]]).getD s.octets.length [])]
        rw [getD_end]
    · rw [e5, List.mem_append, List.mem_singleton] at ho
      exact ho.symm
theorem rewindIf_f (k : Nat) (r : Row) : (rewindIf k r).f = r.f := by unfold rewindIf; split <;> rfl
theorem rewindIf_op (k : Nat) (r : Row) : (rewindIf k r).op = r.op := by unfold rewindIf; split <;> rfl
theorem rowsO_f (s : St) (n acc : List UInt8) : (rowsO s n acc).map (·.f) = s.rows.map (·.f) := by
  unfold rowsO
  split
  · rw [List.map_map]; exact List.map_congr_left fun r _ => rewindIf_f _ r
  · rfl
theorem Good.opened (G : Good t s) (ht : t + 1 ≤ 15) (nd : (s.rows.map (·.f)).Nodup) {n acc : List UInt8} {R : Row} {k : Nat} {x : Addr} {m : Int} (hR : R.f ∉ s.rows.map (·.f)) (h1 : R.way = acc) (h2 : acc ∈ ways6) (h3 : R.name = n) (h4 : R.fop = true) (h5 : R.op = true) (h6 : R.of = numO s n) (h7 : R.was = (octO s n acc).getD (numO s n) []) (h8 : R.fat = R.at_) (h9 : R.at_ ≤ R.was.length) :
    Good (t + 1) { s with k := k, opA := x, many := m, names := namesO s n, octets := octO s n acc, disk := diskOpen s n acc, opened := s.opened.filter s.isOp ++ [R.f], rows := rowsO s n acc ++ [R] } := by
  have O := G.opn2 n acc
  have hoc : ∀ o ∈ octO s n acc, o.length ≤ 4 + 5 * (t + 1) := fun o ho => by
    rcases O.oc o ho with rfl | ho
    · exact Nat.zero_le _
    · exact Nat.le_trans (G.oc o ho) (by omega)
  have hfl := List.length_filter_le s.isOp s.opened
  refine ⟨ht, G.cs, O.disk, O.nk, O.nv, fun p hp => ?_, hoc, ?_, ?_, fun r hr => ?_, ?_, ?_, fun y hy => ?_, fun r hr ho => ?_, ?_⟩
  · rcases O.all p hp with rfl | hp
    · exact O.num
    · exact Nat.lt_of_lt_of_le (G.nlt p hp) O.len.1
  · have := O.len.2; have := G.ocl
    show (octO s n acc).length ≤ _
    omega
  · have := O.nl; have := G.nl
    show (namesO s n).length ≤ _
    omega
  · rcases List.mem_append.mp hr with hr | hr
    · unfold rowsO at hr
      have key : ∀ q ∈ s.rows, (ww acc = true → ¬ (q.of = numO s n ∧ wayR q.way = false ∧ q.op = true)) → RowOk (t + 1) (octO s n acc) (namesO s n) q := fun q hq hn => by
        have RO := (G.rows q hq).up
        refine ⟨RO.way, RO.fop, RO.at_, RO.was, Nat.lt_of_lt_of_le RO.of O.len.1, RO.rd, fun hw ho => ⟨O.sub _ (RO.wr hw ho).1, ?_⟩⟩
        rcases O.old q.of RO.of with ⟨e, hww⟩ | e
        · exact absurd ⟨e, hw, ho⟩ (hn hww)
        · rw [e]; exact (RO.wr hw ho).2
      split at hr
      · rename_i hww
        obtain ⟨q, hq, rfl⟩ := List.mem_map.mp hr
        unfold rewindIf
        split
        · rename_i hc
          simp only [Bool.and_eq_true, beq_iff_eq, Bool.not_eq_true'] at hc
          have RO := (G.rows q hq).up
          exact ⟨RO.way, RO.fop, fun _ => rfl, RO.was, Nat.lt_of_lt_of_le RO.of O.len.1, fun _ _ => Nat.zero_le _, fun hw ho => ⟨O.sub _ (RO.wr hw ho).1, Nat.zero_le _⟩⟩
        · rename_i hc
          refine key q hq fun _ ⟨e1, e2, e3⟩ => hc ?_
          rw [e1, e2, e3]; simp
      · rename_i hww
        exact key r hr fun h => absurd h hww
    · rcases List.mem_singleton.mp hr with rfl
      refine ⟨by rw [h1]; exact h2, by rw [h4, h5], fun _ => h8, by rw [h7]; exact getD_le hoc _, by rw [h6]; exact O.num, fun _ _ => h9, fun _ _ => ⟨by rw [h3, h6]; exact O.inn, ?_⟩⟩
      rw [h6, ← h7]; exact h9
  · have := G.rl
    have e : (rowsO s n acc).length = s.rows.length := by have := congrArg List.length (rowsO_f s n acc); simpa using this
    show (rowsO s n acc ++ [R]).length ≤ _
    rw [List.length_append, e]
    show s.rows.length + 1 ≤ _
    omega
  · refine List.nodup_append.mpr ⟨List.filter_sublist.nodup G.opn, List.nodup_cons.mpr ⟨List.not_mem_nil, List.nodup_nil⟩, fun y hy z hz e => ?_⟩
    rcases List.mem_singleton.mp hz with rfl
    rw [e] at hy
    exact hR (G.ops _ (List.mem_filter.mp hy).1)
  · show y ∈ (rowsO s n acc ++ [R]).map (·.f)
    rw [List.map_append, rowsO_f]
    rcases List.mem_append.mp hy with hy | hy
    · exact List.mem_append_left _ (G.ops y (List.mem_filter.mp hy).1)
    · exact List.mem_append_right _ hy
  · show r.f ∈ s.opened.filter s.isOp ++ [R.f]
    rcases List.mem_append.mp hr with hr | hr
    · have hq : ∃ q ∈ s.rows, q.f = r.f ∧ q.op = true := by
        unfold rowsO at hr
        split at hr
        · obtain ⟨q, hq, rfl⟩ := List.mem_map.mp hr
          rw [rewindIf_op] at ho
          exact ⟨q, hq, (rewindIf_f _ q).symm, ho⟩
        · exact ⟨r, hr, rfl, ho⟩
      obtain ⟨q, hq, e1, e2⟩ := hq
      rw [← e1]
      refine List.mem_append_left _ (List.mem_filter.mpr ⟨G.opa q hq e2, ?_⟩)
      show (s.rows.any fun p => decide (p.f = q.f) && p.fop) = true
      rw [any_f (g := fun p => p.fop) nd hq, (G.rows q hq).fop]; exact e2
    · rcases List.mem_singleton.mp hr with rfl
      exact List.mem_append_right _ (.head _)
  · have := G.opl
    show (s.opened.filter s.isOp ++ [R.f]).length ≤ _
    rw [List.length_append]
    show _ + 1 ≤ _
    omega
end
section
variable {c : Cx} {loc : Loc} {σ : MHeap} {α β : Type} {X : MV → MHeap → Prop} {Q : MV → MHeap → Prop} {h h' : Heap} {a d : Addr} {Kt : MF → Loc → MHeap → Prop} {B : Bool → MHeap → Prop}
variable {E : Cells} {s : St} {t : Nat}
theorem Good.filter (G : Good t s) (nd : (s.rows.map (·.f)).Nodup) (x : Addr) {l : List Addr} (hl : l = s.opened ∨ l = s.opened.filter s.isOp) : Good t { s with opA := x, opened := l } := by
  rcases hl with rfl | rfl
  · exact ⟨G.tle, G.cs, G.disk, G.nk, G.nv, G.nlt, G.oc, G.ocl, G.nl, G.rows, G.rl, G.opn, G.ops, G.opa, G.opl⟩
  · refine ⟨G.tle, G.cs, G.disk, G.nk, G.nv, G.nlt, G.oc, G.ocl, G.nl, G.rows, G.rl, List.filter_sublist.nodup G.opn, fun y hy => G.ops y (List.mem_filter.mp hy).1, fun r hr ho => List.mem_filter.mpr ⟨G.opa r hr ho, ?_⟩, Nat.le_trans (List.length_filter_le _ _) G.opl⟩
    show (s.rows.any fun p => decide (p.f = r.f) && p.fop) = true
    rw [any_f (g := fun p => p.fop) nd hr, (G.rows r hr).fop]; exact ho
noncomputable def dueOpen (s : St) (n acc : List UInt8) : List (List UInt8) := ((if bad1 acc = true then [b_invalidfileaccess] else []) ++ (if bad2 s n acc = true then [b_undefinedfilename] else [])) ++ (if bad3 s n = true then [b_limitcheck] else [])
theorem any_pair (u v x : List UInt8) : ([u, v].any fun y => decide (y = x)) = (x == u || x == v) := by
  rw [List.any_cons, List.any_cons, List.any_nil, Bool.or_false]
  congr 1
  · rw [Bool.eq_iff_iff, decide_eq_true_iff, beq_iff_eq]; exact eq_comm
  · rw [Bool.eq_iff_iff, decide_eq_true_iff, beq_iff_eq]; exact eq_comm
theorem dec_le (a b : Nat) : decide ((a : Int) ≤ (b : Int)) = decide (a ≤ b) := by rw [decide_eq_decide]; omega
theorem dec_lt (a b : Nat) : decide ((a : Int) < (b : Int)) = decide (a < b) := by rw [decide_eq_decide]; omega
theorem w6_1 : ∀ acc ∈ ways6, bad1 acc = false := by decide +kernel
theorem Opn.got {s : St} {n acc : List UInt8} (O : Opn s n acc) : getK (diskOpen s n acc) n = some ((octO s n acc).getD (numO s n) []) := by
  rw [O.disk, getK_map (g := fun j => (octO s n acc).getD j []), getK_mem O.nk O.inn]
  rfl
theorem opened_ok (C : c.Ok) (hH : c.A.handled = none) (hn : 6 ≤ c.n) (I : Inv E s σ) (G : Good t s) (ht : t + 1 ≤ 15) (hk : s.k ≤ 500) (h : ∀ s' σ', Nxt t s s' → Inv E s' σ' → Q (.bool true) σ') : CallR c loc σ (.ref 459) [.ref s.deck, .ref s.own, .ref s.T] Q X := by
  refine call_fn C hH (by omega) (fn459 _) rfl (loc₀ := [(S "deck", .ref s.deck), (S "own", .ref s.own), (S "table", .ref s.T)]) rfl ?_
  intro H n' A frames fr fix L hn' hH' C' F'
  have hn4 : 4 ≤ n' := by omega
  have hn3 : 3 ≤ n' := by omega
  have hn1 : 1 ≤ n' := by omega
  have htl := G.tle
  have hcs := G.cs
  have hnl : s.names.length ≤ 17 := by have := G.nl; omega
  have hdl : s.disk.length ≤ 17 := G.dl
  have hol : s.opened.length ≤ 15 := by have := G.opl; omega
  have hrl : s.rows.length ≤ 15 := by have := G.rl; omega
  have hocl : s.octets.length ≤ 17 := by have := G.ocl; omega
  refine S_join (K1 := fun l σ' => ∃ told acc, told ∈ names9 ∧ acc ∈ ways7 ∧ l = [(S "told", .bytes told), (S "way", .bytes acc), (S "deck", .ref s.deck), (S "own", .ref s.own), (S "table", .ref s.T)] ∧ Inv E { s with k := s.k + 2 } σ') ?_ ?_
  · refine S_swap (names := [S "told", S "way"]) hH' ?_ (by kernel_rfl) (by kernel_rfl)
    refine Args_cons ?_ (by kernel_rfl)
    refine E_pickN (b := 9) C' hH' hn1 .head (by kernel_rfl) (by kernel_rfl) (by kernel_rfl) I (by omega) (by omega) (by decide) (by decide) fun told σ1 h1 I1 => ?_
    refine Args_cons ?_ (by kernel_rfl)
    refine E_pickG (s := { s with k := s.k + 1 }) (b := 7) (ys := ways7) C' hn1 (g_law_ways _) (fun _ => has425 C') .head (by kernel_rfl) (by kernel_rfl) (by kernel_rfl) (by kernel_rfl) I1 (by show s.k + 1 ≤ 1000; omega) (by show s.cs.length ≤ 1000; omega) (by decide) (by decide) (by decide) fun acc σ2 h2 I2 => ?_
    refine Args_nil ?_
    refine ⟨leB (by kernel_rfl), rfl, A_cons fun u hu => A_bind C' hu (by walk_at "wipe") (A_cons fun u hu => A_bind C' hu (by walk_at "wipe") (A_nil ?_) (by kernel_rfl)) (by kernel_rfl)⟩
    exact ⟨rfl, told, acc, h1, h2, rfl, I2⟩
  rintro _ σ1 ⟨told, acc, hto, hacc, rfl, I1⟩
  have htl9 := names_len told hto
  have hal := w_len acc hacc
  have hN := names_NameOk hto
  have hfl := hN.len
  have nd := I1.fs_nodup
  refine S_seq ?_
  refine S_swap (names := [S "named", S "due"]) hH' ?_ (by kernel_rfl) (by kernel_rfl)
  repeat' walk_at "v"
  refine plain_ok C' hH' hn1 (by omega) ?_
  repeat' walk_at "v"
  refine E_list C' ?_
  repeat' walk_at "v"
  refine ⟨leB rfl, fun du hdu => ?_⟩
  repeat' walk_at "v"
  have I2 := I1.push (o := .list []) hdu
  refine ⟨leB (by kernel_rfl), rfl, A_cons fun u hu => A_bind C' hu (by walk_at "wipe") (A_cons fun u hu => A_bind C' hu (by walk_at "wipe") (A_nil ?_) (by kernel_rfl)) (by kernel_rfl)⟩
  refine K_next ?_
  obtain ⟨hdeck, hcA, hown, hnm, hocA, hrwA, hT, htd, hdk, hopA⟩ := I2.all
  refine S_seq ?_
  repeat' walk_at "v"
  refine o_in_bd C' (es := s.names.map fun (p : List UInt8 × Nat) => (p.1, MV.int (p.2 : Int))) hnm ?_
  rw [getK_map (g := fun k : Nat => MV.int k), Option.isSome_map]
  repeat' walk_at "v"
  have hlk := G.look (plain told)
  have hlk' : (getK s.disk (plain told)).isSome = (getK s.names (plain told)).isSome := by rw [hlk, Option.isSome_map]
  have hd := I2.frame (.head _)
  refine K_next ?_
  refine S_join (K1 := fun l σ' => l = [(S "is_there", .bool (getK s.names (plain told)).isSome), (S "named", .bytes (plain told)), (S "due", .ref du), (S "told", .bytes told), (S "way", .bytes acc), (S "deck", .ref s.deck), (S "own", .ref s.own), (S "table", .ref s.T)] ∧ Inv ((du, .list ((if bad1 acc = true then [b_invalidfileaccess] else []).map .bytes)) :: E) { s with k := s.k + 2 } σ') ?_ ?_
  · unfold bad1
    repeat' walk_at "v"
    cases hg : (acc == [113])
    · refine ite_f ?_
      refine S_nil ?_
      exact ⟨rfl, rfl, I2⟩
    · refine ite_t ?_
      refine S_last ?_
      repeat' walk_at "v"
      refine ⟨_, _, by kernel_rfl, m_append hd, ?_⟩
      repeat' walk_at "v"
      refine c_append hd (by simp) ?_
      exact ⟨rfl, rfl, I2.setE⟩
  rintro _ σ2 ⟨rfl, I3⟩
  refine S_join (K1 := fun l σ' => l = [(S "is_there", .bool (getK s.names (plain told)).isSome), (S "named", .bytes (plain told)), (S "due", .ref du), (S "told", .bytes told), (S "way", .bytes acc), (S "deck", .ref s.deck), (S "own", .ref s.own), (S "table", .ref s.T)] ∧ Inv ((du, .list (((if bad1 acc = true then [b_invalidfileaccess] else []) ++ (if bad2 s (plain told) acc = true then [b_undefinedfilename] else [])).map .bytes)) :: E) { s with k := s.k + 2 } σ') ?_ ?_
  · have hd3 := I3.frame (.head _)
    have add : ∀ σ', Inv ((du, .list ((if bad1 acc = true then [b_invalidfileaccess] else []).map .bytes)) :: E) { s with k := s.k + 2 } σ' → Inv ((du, .list (((if bad1 acc = true then [b_invalidfileaccess] else []) ++ [b_undefinedfilename]).map .bytes)) :: E) { s with k := s.k + 2 } (upd σ' du (.list ((if bad1 acc = true then [b_invalidfileaccess] else []).map .bytes ++ [.bytes b_undefinedfilename]))) := fun σ' J => by
      rw [List.map_append]; exact J.setE
    have hsz : ((if bad1 acc = true then [b_invalidfileaccess] else [] : List (List UInt8)).map MV.bytes).length ≤ 1000000 := by split <;> simp
    repeat' walk_at "v"
    refine E_tuple C' ?_
    repeat' walk_at "v"
    refine ⟨leB (by kernel_rfl), fun z hz => ?_⟩
    have I4 := I3.garbage (o := .tup [.bytes [], .bytes [37, 120]]) hz
    have hd4 := at_ne (o := .tup [.bytes [], .bytes [37, 120]]) hd3 (ne_fresh hd3 hz)
    refine o_in_tup (ys := [[], [37, 120]]) (Has.of (upd_self _ _ _)) ?_
    rw [any_pair]
    repeat' walk_at "v"
    unfold bad2
    rw [← Bool.or_assoc]
    cases hg : (plain told == [] || plain told == [37, 120])
    · refine ite_f ?_
      repeat' walk_at "v"
      refine E_tuple C' ?_
      repeat' walk_at "v"
      refine ⟨leB (by kernel_rfl), fun z2 hz2 => ?_⟩
      have I5 := I4.garbage (o := .tup [.bytes [114], .bytes [114, 43]]) hz2
      have hd5 := at_ne (o := .tup [.bytes [114], .bytes [114, 43]]) hd4 (ne_fresh hd4 hz2)
      refine o_in_tup (ys := [[114], [114, 43]]) (Has.of (upd_self _ _ _)) ?_
      rw [any_pair]
      repeat' walk_at "v"
      cases hg2 : (acc == [114] || acc == [114, 43])
      · repeat' walk_at "v"
        refine S_nil ?_
        refine ⟨rfl, rfl, ?_⟩
        rw [Bool.false_and, Bool.or_false, if_neg Bool.false_ne_true, List.append_nil]
        exact I5
      · refine ite_t ?_
        repeat' walk_at "v"
        rw [hlk', Bool.true_and, Bool.false_or]
        cases hg3 : (getK s.names (plain told)).isSome
        · refine ite_t ?_
          repeat' walk_at "v"
          refine S_last ?_
          repeat' walk_at "v"
          refine ⟨_, _, by kernel_rfl, m_append hd5, ?_⟩
          repeat' walk_at "v"
          refine c_append hd5 hsz ?_
          exact ⟨rfl, rfl, add _ I5⟩
        · repeat' walk_at "v"
          refine S_nil ?_
          refine ⟨rfl, rfl, ?_⟩
          rw [show (!true) = false from rfl, if_neg Bool.false_ne_true, List.append_nil]
          exact I5
    · refine ite_t ?_
      refine ite_t ?_
      refine S_last ?_
      repeat' walk_at "v"
      refine ⟨_, _, by kernel_rfl, m_append hd4, ?_⟩
      repeat' walk_at "v"
      refine c_append hd4 hsz ?_
      exact ⟨rfl, rfl, add _ I4⟩
  rintro _ σ3 ⟨rfl, I4⟩
  refine S_join (K1 := fun l σ' => l = [(S "is_there", .bool (getK s.names (plain told)).isSome), (S "named", .bytes (plain told)), (S "due", .ref du), (S "told", .bytes told), (S "way", .bytes acc), (S "deck", .ref s.deck), (S "own", .ref s.own), (S "table", .ref s.T)] ∧ Inv ((du, .list ((dueOpen s (plain told) acc).map .bytes)) :: E) { s with k := s.k + 2 } σ') ?_ ?_
  · obtain ⟨hdeck4, hcA4, hown4, hnm4, hocA4, hrwA4, hT4, htd4, hdk4, hopA4⟩ := I4.all
    have hd4 := I4.frame (.head _)
    repeat' walk_at "v"
    refine E_comp C' hH' (cl := []) (by kernel_rfl) (by kernel_rfl) (by kernel_rfl) (by kernel_rfl) (by kernel_rfl) (fun v => by kernel_rfl) ?_
    repeat' walk_at "v"
    refine ⟨_, _, _, fun i ys σ' => σ' = σ3 ∧ ys = ((s.rows.take i).filter (·.op)).map fun r => .ref r.a, It_list (xs := s.rows.map fun r => .ref r.a) (by rw [List.length_map]; omega), ⟨rfl, rfl⟩, fun i ys σ' j => ?_, fun i ys σ' j => ?_, fun i y ys σ' hy j fr' fix' D hfx Cc => ?_, fun ys σ' j => ?_⟩
    · obtain ⟨rfl, rfl⟩ := j
      exact hrwA4
    · obtain ⟨rfl, rfl⟩ := j
      rw [List.length_map]
      have h1 := List.length_filter_le (·.op) (s.rows.take i)
      have h2 := List.length_take_le' i s.rows
      omega
    · obtain ⟨rfl, rfl⟩ := j
      obtain ⟨r, hr, rfl⟩ := map_at2 hy
      have hra := I4.rowAt (List.mem_of_getElem? hr)
      have e : (s.rows.take (i + 1)).filter (·.op) = (s.rows.take i).filter (·.op) ++ (if r.op = true then [r] else []) := by
        rw [take_at hr, List.filter_append]
        cases hq : r.op <;> simp [hq]
      refine I_one ?_
      repeat' walk_at "v"
      cases hq : r.op
      · refine ite_f ⟨rfl, ?_⟩
        rw [e, hq]; simp
      · refine ite_t ?_
        repeat' walk_at "v"
        refine ⟨rfl, ?_⟩
        rw [e, hq]; simp
    · obtain ⟨rfl, rfl⟩ := j
      rw [List.length_map, List.take_length]
      intro x hx
      have I5 := I4.garbage (o := .list ((s.rows.filter (·.op)).map fun r => .ref r.a)) hx
      have hd5 := at_ne (o := .list ((s.rows.filter (·.op)).map fun r => MV.ref r.a)) hd4 (ne_fresh hd4 hx)
      have hlen := List.length_filter_le (·.op) s.rows
      have hcnt := G.count nd
      have hsz : (((if bad1 acc = true then [b_invalidfileaccess] else []) ++ (if bad2 s (plain told) acc = true then [b_undefinedfilename] else []) : List (List UInt8)).map MV.bytes).length ≤ 1000000 := by split <;> split <;> simp
      have add : ∀ σ', Inv ((du, .list (((if bad1 acc = true then [b_invalidfileaccess] else []) ++ (if bad2 s (plain told) acc = true then [b_undefinedfilename] else [])).map .bytes)) :: E) { s with k := s.k + 2 } σ' → bad3 s (plain told) = true → Inv ((du, .list ((dueOpen s (plain told) acc).map .bytes)) :: E) { s with k := s.k + 2 } (upd σ' du (.list (((if bad1 acc = true then [b_invalidfileaccess] else []) ++ (if bad2 s (plain told) acc = true then [b_undefinedfilename] else [])).map .bytes ++ [.bytes b_limitcheck]))) := fun σ' J hb => by
        unfold dueOpen
        rw [hb, if_pos rfl, List.map_append (l₂ := [b_limitcheck])]
        exact J.setE
      have skip : ∀ σ', Inv ((du, .list (((if bad1 acc = true then [b_invalidfileaccess] else []) ++ (if bad2 s (plain told) acc = true then [b_undefinedfilename] else [])).map .bytes)) :: E) { s with k := s.k + 2 } σ' → bad3 s (plain told) = false → Inv ((du, .list ((dueOpen s (plain told) acc).map .bytes)) :: E) { s with k := s.k + 2 } σ' := fun σ' J hb => by
        unfold dueOpen
        rw [hb, if_neg Bool.false_ne_true, List.append_nil]
        exact J
      unfold bad3 at add skip
      rw [hlk', hcnt] at add skip
      repeat' walk_at "v"
      refine c_len_list (upd_self _ _ _) (by rw [List.length_map]; omega) ?_
      rw [List.length_map]
      repeat' walk_at "v"
      rw [dec_le]
      cases hc1 : decide (s.most ≤ (s.rows.filter (·.op)).length) <;> rw [hc1] at add skip
      · refine ite_f ?_
        repeat' walk_at "v"
        refine c_len_bytes (by omega) ?_
        repeat' walk_at "v"
        rw [show decide ((255 : Int) < ((plain told).length : Int)) = decide (255 < (plain told).length) from dec_lt 255 _]
        cases hc2 : decide (255 < (plain told).length) <;> rw [hc2] at add skip
        · repeat' walk_at "v"
          refine S_nil ?_
          exact ⟨rfl, rfl, skip _ I5 rfl⟩
        · refine ite_t ?_
          repeat' walk_at "v"
          cases hg3 : (getK s.names (plain told)).isSome <;> rw [hg3] at add skip
          · refine ite_nt ?_
            repeat' walk_at "v"
            refine S_last ?_
            repeat' walk_at "v"
            refine ⟨_, _, by kernel_rfl, m_append hd5, ?_⟩
            repeat' walk_at "v"
            refine c_append hd5 hsz ?_
            exact ⟨rfl, rfl, add _ I5 rfl⟩
          · refine ite_nf ?_
            repeat' walk_at "v"
            refine S_nil ?_
            exact ⟨rfl, rfl, skip _ I5 rfl⟩
      · refine ite_t ?_
        repeat' walk_at "v"
        refine S_last ?_
        repeat' walk_at "v"
        refine ⟨_, _, by kernel_rfl, m_append hd5, ?_⟩
        repeat' walk_at "v"
        refine c_append hd5 hsz ?_
        exact ⟨rfl, rfl, add _ I5 rfl⟩
  rintro _ σ4 ⟨rfl, I5⟩
  have O := G.opn2 (plain told) acc
  have hOc : ∀ j, ((octO s (plain told) acc).getD j []).length ≤ 79 := fun j => getD_le (fun o ho => by
    rcases O.oc o ho with rfl | ho
    · exact Nat.zero_le _
    · have := G.oc o ho; omega) j
  obtain ⟨hdeck5, hcA5, hown5, hnm5, hocA5, hrwA5, hT5, htd5, hdk5, hopA5⟩ := I5.all
  refine S_seq ?_
  refine try_core (Kt := seqK _ _ _ _) (XB := fun told' σ' => (∃ x l, (l = s.opened ∨ l = s.opened.filter s.isOp) ∧ Inv ((du, .list ((dueOpen s (plain told) acc).map .bytes)) :: E) { s with k := s.k + 2, opA := x, opened := l } σ') ∧ ∃ b, told' = .bytes b ∧ b ∈ dueOpen s (plain told) acc) (locE := [(S "is_there", .bool (getK s.names (plain told)).isSome), (S "named", .bytes (plain told)), (S "due", .ref du), (S "told", .bytes told), (S "way", .bytes acc), (S "deck", .ref s.deck), (S "own", .ref s.own), (S "table", .ref s.T)]) (loc' := [(S "is_there", .bool (getK s.names (plain told)).isSome), (S "named", .bytes (plain told)), (S "due", .ref du), (S "told", .bytes told), (S "way", .bytes acc), (S "deck", .ref s.deck), (S "own", .ref s.own), (S "table", .ref s.T)]) C' F' hH' (TB_name C' ?_ (by kernel_rfl) (by kernel_rfl)) (by walk_at "wipe") ?_ (by kernel_rfl) (by kernel_rfl)
  rotate_left
  · rintro told' σ' a ed A' ⟨⟨x, l, hl, I7⟩, b, rfl, hb⟩ ha hed c' Cc
    have hne : ed ≠ a := ne_fresh hed ha
    have hdu := I7.frame (.head _)
    refine S_last ?_
    refine S_ret ?_
    refine E_compare ?_ (by kernel_rfl)
    repeat' walk_at "v"
    refine a_toldR Cc (upd_self _ _ _) (at_ne hed hne) rfl ?_
    repeat' walk_at "v"
    refine o_in_list (at_ne hdu (ne_fresh hdu ha)) ?_
    rw [show ((dueOpen s (plain told) acc).any fun y => decide (y = b)) = true from List.any_eq_true.mpr ⟨b, hb, by simp⟩]
    refine h _ _ ?_ (I7.garbage ha).pop
    exact ⟨rfl, rfl, rfl, Nat.le_refl _, (((G.setk (s.k + 2)).filter nd x hl).up ht _)⟩
  repeat' walk_at "v"
  refine ⟨_, _, by kernel_rfl, m_inst C' hT5 htd5 (f := 370) (by kernel_rfl) (by kernel_rfl), ?_⟩
  repeat' walk_at "v"
  refine fopen_ok (s := { s with k := s.k + 2 }) C' hH' hn4 I5 (by omega) hacc hN (G.isOp nd) (by show s.opened.length ≤ 100; omega) (by show s.disk.length ≤ 1000; omega) (fun o ho => by
    have e : getK (diskOpen s (plain told) acc) (plain told) = some o := ho
    rw [O.got] at e
    rw [← Option.some.inj e]
    exact Nat.le_trans (hOc _) (by decide)) (fun ha6 hb2 hb3 σ6 x R o hgo r1 r2 r3 r4 r5 I6 => ?_) (fun b σ' x l hb hl I' e he => ⟨⟨x, l, hl, I'.garbage he⟩, b, rfl, ?_⟩)
  rotate_left
  · unfold dueOpen
    rcases hb with ⟨rfl, hb⟩ | ⟨rfl, hb⟩ | ⟨rfl, hb⟩
    · rw [hb]
      exact List.mem_append_left _ (List.mem_append_left _ (.head _))
    · rw [show bad2 s (plain told) acc = true from hb]
      exact List.mem_append_left _ (List.mem_append_right _ (.head _))
    · rw [show bad3 s (plain told) = true from hb]
      exact List.mem_append_right _ (.head _)
  have e2 : dueOpen s (plain told) acc = [] := by
    unfold dueOpen
    rw [w6_1 acc ha6, show bad2 s (plain told) acc = false from hb2, show bad3 s (plain told) = false from hb3]
    rfl
  have ho : o = (octO s (plain told) acc).getD (numO s (plain told)) [] := by
    have e : getK (diskOpen s (plain told) acc) (plain told) = some o := hgo
    rw [O.got] at e
    exact (Option.some.inj e).symm
  have hol79 : o.length ≤ 79 := by rw [ho]; exact hOc _
  rw [e2] at I6
  clear I1 I2 I3 I4 I5 e2 hgo hdeck hcA hown hnm hocA hrwA hT htd hdk hopA hdeck5 hcA5 hown5 hnm5 hocA5 hrwA5 hT5 htd5 hdk5 hopA5 hd hb2 hb3
  refine ⟨_, by walk_at "wipe", ?_⟩
  refine K_next ?_
  refine S_seq ?_
  refine S_if ?_
  refine B_compare ?_ (by kernel_rfl)
  repeat' walk_at "v"
  refine E_list C' ?_
  repeat' walk_at "v"
  refine ⟨leB rfl, fun z hz => ?_⟩
  have hdu6 := I6.frame (.tail _ (.tail _ (.head _)))
  have I7 : Inv ((R.f, .inst (fileC R) R.d) :: (R.d, fileO s.dk R) :: (du, .list []) :: E) { s with k := s.k + 2, opA := x, many := s.many + 1, disk := diskOpen s (plain told) acc, opened := s.opened.filter s.isOp ++ [R.f] } (upd σ6 z (.list [])) := I6.garbage (o := .list []) hz
  refine o_ne_nil C' (at_ne hdu6 (ne_fresh hdu6 hz)) (upd_self _ _ _) ?_
  refine t_bool ?_
  refine ite_nf ?_
  refine S_nil ?_
  refine K_next ?_
  refine S_join (K1 := fun l σ' => l = (S "file", .ref R.f) :: [(S "is_there", .bool (getK s.names (plain told)).isSome), (S "named", .bytes (plain told)), (S "due", .ref du), (S "told", .bytes told), (S "way", .bytes acc), (S "deck", .ref s.deck), (S "own", .ref s.own), (S "table", .ref s.T)] ∧ Inv ((R.f, .inst (fileC R) R.d) :: (R.d, fileO s.dk R) :: (du, .list []) :: E) { s with k := s.k + 2, opA := x, many := s.many + 1, disk := diskOpen s (plain told) acc, opened := s.opened.filter s.isOp ++ [R.f], names := namesO s (plain told), octets := octA s (plain told) } σ') ?_ ?_
  · obtain ⟨hdeck7, hcA7, hown7, hnm7, hocA7, hrwA7, hT7, htd7, hdk7, hopA7⟩ := I7.all
    unfold namesO octA
    repeat' walk_at "v"
    cases hg : (getK s.names (plain told)).isSome
    · refine ite_nt ?_
      refine S_join (K1 := fun l σ' => l = (S "file", .ref R.f) :: [(S "is_there", .bool (getK s.names (plain told)).isSome), (S "named", .bytes (plain told)), (S "due", .ref du), (S "told", .bytes told), (S "way", .bytes acc), (S "deck", .ref s.deck), (S "own", .ref s.own), (S "table", .ref s.T)] ∧ Inv ((R.f, .inst (fileC R) R.d) :: (R.d, fileO s.dk R) :: (du, .list []) :: E) { s with k := s.k + 2, opA := x, many := s.many + 1, disk := diskOpen s (plain told) acc, opened := s.opened.filter s.isOp ++ [R.f], names := putK s.names (plain told) s.octets.length } σ') ?_ ?_
      · repeat' walk_at "v"
        refine c_len_list hocA7 (by rw [List.length_map]; show s.octets.length ≤ 1000000; omega) ?_
        rw [List.length_map]
        repeat' walk_at "v"
        refine p_bd hnm7 (by rw [List.length_map]; show s.names.length ≤ 1000000; omega) ?_
        have I8 := I7.setnames (putK s.names (plain told) s.octets.length)
        unfold bdN at I8
        rw [← putK_map (g := fun k : Nat => MV.int k)] at I8
        refine ⟨rfl, ?_, I8⟩
        rw [hg]
      · rintro _ σ8 ⟨rfl, I8⟩
        obtain ⟨hdeck8, hcA8, hown8, hnm8, hocA8, hrwA8, hT8, htd8, hdk8, hopA8⟩ := I8.all
        refine S_last ?_
        repeat' walk_at "v"
        refine ⟨_, _, by kernel_rfl, m_append hocA8, ?_⟩
        repeat' walk_at "v"
        refine c_append hocA8 (by rw [List.length_map]; show s.octets.length ≤ 1000000; omega) ?_
        have I9 := I8.setoctets (s.octets ++ [[]])
        rw [List.map_append] at I9
        refine ⟨rfl, ?_, I9⟩
        rw [hg]
    · refine ite_nf ?_
      refine S_nil ?_
      exact ⟨rfl, rfl, I7⟩
  rintro _ σ7 ⟨rfl, I8⟩
  obtain ⟨hdeck8, hcA8, hown8, hnm8, hocA8, hrwA8, hT8, htd8, hdk8, hopA8⟩ := I8.all
  refine S_seq ?_
  repeat' walk_at "v"
  refine i_bd (es := (namesO s (plain told)).map fun (p : List UInt8 × Nat) => (p.1, MV.int (p.2 : Int))) (v := .int (numO s (plain told))) hnm8 (by rw [getK_map (g := fun k : Nat => MV.int k), getK_mem O.nk O.inn]; rfl) ?_
  repeat' walk_at "v"
  refine K_next ?_
  have hnum := O.num
  have hOl := O.len
  have hAl : (octA s (plain told)).length = (octO s (plain told) acc).length := by unfold octO; split; rw [List.length_set]; rfl
  refine S_join (K1 := fun l σ' => (∀ p ∈ ((S "number", MV.int (numO s (plain told))) :: (S "file", .ref R.f) :: [(S "is_there", .bool (getK s.names (plain told)).isSome), (S "named", .bytes (plain told)), (S "due", .ref du), (S "told", .bytes told), (S "way", .bytes acc), (S "deck", .ref s.deck), (S "own", .ref s.own), (S "table", .ref s.T)] : Loc), p ∈ l) ∧ Inv ((R.f, .inst (fileC R) R.d) :: (R.d, fileO s.dk R) :: (du, .list []) :: E) { s with k := s.k + 2, opA := x, many := s.many + 1, disk := diskOpen s (plain told) acc, opened := s.opened.filter s.isOp ++ [R.f], names := namesO s (plain told), octets := octO s (plain told) acc, rows := rowsO s (plain told) acc } σ') ?_ ?_
  · repeat' walk_at "v"
    refine E_tuple C' ?_
    repeat' walk_at "v"
    refine ⟨leB (by kernel_rfl), fun z1 hz1 => ?_⟩
    have I9 := I8.garbage (o := .tup [.bytes [119], .bytes [119, 43]]) hz1
    refine o_in_tup (ys := [[119], [119, 43]]) (Has.of (upd_self _ _ _)) ?_
    rw [any_pair]
    unfold octO rowsO
    rw [show (acc == [119] || acc == [119, 43]) = ww acc from rfl]
    repeat' walk_at "v"
    cases hg : ww acc
    · refine ite_f ?_
      refine S_nil ?_
      exact ⟨rfl, fun p hp => hp, I9⟩
    · refine ite_t ?_
      obtain ⟨hdeck9, hcA9, hown9, hnm9, hocA9, hrwA9, hT9, htd9, hdk9, hopA9⟩ := I9.all
      refine S_join (K1 := fun l σ' => l = (S "number", MV.int (numO s (plain told))) :: (S "file", .ref R.f) :: [(S "is_there", .bool (getK s.names (plain told)).isSome), (S "named", .bytes (plain told)), (S "due", .ref du), (S "told", .bytes told), (S "way", .bytes acc), (S "deck", .ref s.deck), (S "own", .ref s.own), (S "table", .ref s.T)] ∧ Inv ((R.f, .inst (fileC R) R.d) :: (R.d, fileO s.dk R) :: (du, .list []) :: E) { s with k := s.k + 2, opA := x, many := s.many + 1, disk := diskOpen s (plain told) acc, opened := s.opened.filter s.isOp ++ [R.f], names := namesO s (plain told), octets := (octA s (plain told)).set (numO s (plain told)) [] } σ') ?_ ?_
      · repeat' walk_at "v"
        refine p_list (xs := (octA s (plain told)).map .bytes) hocA9 (by omega) (by simp; omega) (by simp; omega) ?_
        have I10 := I9.setoctets ((octA s (plain told)).set (numO s (plain told)) [])
        rw [List.map_set] at I10
        exact ⟨rfl, rfl, I10⟩
      · rintro _ σ9 ⟨rfl, I10⟩
        have hO : octO s (plain told) acc = (octA s (plain told)).set (numO s (plain told)) [] := by unfold octO; rw [hg]; rfl
        rw [← hO] at I10 ⊢
        obtain ⟨hdeck10, hcA10, hown10, hnm10, hocA10, hrwA10, hT10, htd10, hdk10, hopA10⟩ := I10.all
        refine S_last ?_
        refine S_forF C' hH' ((S "number", MV.int (numO s (plain told))) :: (S "file", .ref R.f) :: [(S "is_there", .bool (getK s.names (plain told)).isSome), (S "named", .bytes (plain told)), (S "due", .ref du), (S "told", .bytes told), (S "way", .bytes acc), (S "deck", .ref s.deck), (S "own", .ref s.own), (S "table", .ref s.T)]) (fun _ hp => hp) (noName (by kernel_rfl)) ?_ (by kernel_rfl) (fun v => by kernel_rfl)
        repeat' walk_at "v"
        have hga : ∀ r, (rewindIf (numO s (plain told)) r).a = r.a := fun r => by unfold rewindIf; split <;> rfl
        refine ⟨_, _, _, fun i σ' => Inv ((R.f, .inst (fileC R) R.d) :: (R.d, fileO s.dk R) :: (du, .list []) :: E) { s with k := s.k + 2, opA := x, many := s.many + 1, disk := diskOpen s (plain told) acc, opened := s.opened.filter s.isOp ++ [R.f], names := namesO s (plain told), octets := octO s (plain told) acc, rows := rowsAt (rewindIf (numO s (plain told))) i s.rows } σ', It_list (xs := s.rows.map fun r => .ref r.a) (by rw [List.length_map]; omega), I10, fun i σ' J => ?_, fun i y σ' hy J It ob Cp => ?_, fun σ' J l hl => ?_⟩
        · have := J.all.2.2.2.2.2.1
          rw [← rowsAt_map (g := rewindIf (numO s (plain told))) (fun r => MV.ref r.a) (fun r => by rw [hga]) i]
          exact this
        · obtain ⟨r, hr, rfl⟩ := map_at2 hy
          have hrm := List.mem_of_getElem? hr
          have e1 := rowsAt_at (g := rewindIf (numO s (plain told))) hr
          have e2 := rowsAt_succ (g := rewindIf (numO s (plain told))) hr
          have RO := G.rows r hrm
          have hrm' : r ∈ rowsAt (rewindIf (numO s (plain told))) i s.rows := by rw [e1]; simp
          have hra := J.rowAt (r := r) hrm'
          have fin : (r.of == numO s (plain told) && (!wayR r.way && r.op)) = false → Inv ((R.f, .inst (fileC R) R.d) :: (R.d, fileO s.dk R) :: (du, .list []) :: E) { s with k := s.k + 2, opA := x, many := s.many + 1, disk := diskOpen s (plain told) acc, opened := s.opened.filter s.isOp ++ [R.f], names := namesO s (plain told), octets := octO s (plain told) acc, rows := rowsAt (rewindIf (numO s (plain told))) (i + 1) s.rows } σ' := fun e => by
            rw [e2, show rewindIf (numO s (plain told)) r = r by unfold rewindIf; rw [e]; rfl, ← e1]
            exact J
          refine S_last ?_
          repeat' walk_at "v"
          cases hz : ((r.of : Int) == (numO s (plain told) : Int))
          · have hz' : (r.of == numO s (plain told)) = false := by
              rw [beq_eq_false_iff_ne] at hz ⊢
              omega
            repeat' walk_at "v"
            refine S_nil ?_
            exact ⟨fun p hp => .tail _ hp, fin (by rw [hz']; rfl)⟩
          · have hz' : (r.of == numO s (plain told)) = true := by
              rw [beq_iff_eq] at hz ⊢
              omega
            refine ite_t ?_
            repeat' walk_at "v"
            cases hw : (r.way != [114])
            · repeat' walk_at "v"
              refine S_nil ?_
              exact ⟨fun p hp => .tail _ hp, fin (by rw [hz', show wayR r.way = true by simpa [wayR] using hw]; rfl)⟩
            · have hw' : wayR r.way = false := by simpa [wayR] using hw
              refine ite_t ?_
              repeat' walk_at "v"
              cases hop : r.op
              · repeat' walk_at "v"
                refine S_nil ?_
                exact ⟨fun p hp => .tail _ hp, fin (by rw [hz', hw', hop]; rfl)⟩
              · repeat' walk_at "v"
                refine S_seq ?_
                repeat' walk_at "v"
                obtain ⟨m1, m2⟩ := meth_r (loc := (S "row", .ref r.a) :: (S "number", MV.int (numO s (plain told))) :: (S "file", .ref R.f) :: [(S "is_there", .bool (getK s.names (plain told)).isSome), (S "named", .bytes (plain told)), (S "due", .ref du), (S "told", .bytes told), (S "way", .bytes acc), (S "deck", .ref s.deck), (S "own", .ref s.own), (S "table", .ref s.T)]) Cp J (r := r) hrm' (nm := "set_position") (f1 := 223) (f2 := 277) (by kernel_rfl) (by kernel_rfl) no_setpos (by kernel_rfl) (by kernel_rfl)
                refine ⟨_, _, m2, m1, ?_⟩
                repeat' walk_at "v"
                have hop' : r.fop = true := by rw [RO.fop, hop]
                have hin := (RO.wr hw' hop).1
                have hgd : getK (diskOpen s (plain told) acc) r.name = some ((octO s (plain told) acc).getD r.of []) := by
                  rw [O.disk, getK_map (g := fun j => (octO s (plain told) acc).getD j []), getK_mem O.nk (O.sub _ hin)]
                  rfl
                have hzz : (r.oct { s with k := s.k + 2, opA := x, many := s.many + 1, disk := diskOpen s (plain told) acc, opened := s.opened.filter s.isOp ++ [R.f], names := namesO s (plain told), octets := octO s (plain told) acc, rows := rowsAt (rewindIf (numO s (plain told))) i s.rows }).length ≤ 1000 := by
                  unfold Row.oct
                  rw [hw', if_neg Bool.false_ne_true, hgd]
                  exact Nat.le_trans (hOc _) (by decide)
                refine set_row (s := { s with k := s.k + 2, opA := x, many := s.many + 1, disk := diskOpen s (plain told) acc, opened := s.opened.filter s.isOp ++ [R.f], names := namesO s (plain told), octets := octO s (plain told) acc, rows := rowsAt (rewindIf (numO s (plain told))) i s.rows }) Cp hH' hn3 J (r := r) e1 hzz (fun _ _ => by show (getK (diskOpen s (plain told) acc) r.name).isSome = true; rw [hgd]; rfl) (fun _ q e hq σ10 I11 => ?_) (fun hf => by rw [hop'] at hf; cases hf) (fun _ hf => by omega) (fun _ hf => by omega)
                have e3 : q = 0 := by omega
                subst e3
                have hra11 := I11.rowAt (r := r.set 0) (by simp)
                have I12 := I11.setrowA (R1 := (s.rows.take i).map (rewindIf (numO s (plain told)))) (R2 := s.rows.drop (i + 1)) (r := r.set 0) (r' := { r.set 0 with at_ := 0 }) rfl rfl rfl rfl rfl rfl
                refine K_next ?_
                refine S_last ?_
                have hra12 : σ10 r.a = some (.sd [(S "file", .ref r.f), (S "way", .bytes r.way), (S "of", .int r.of), (S "was", .bytes r.was), (S "is_open", .bool r.op), (S "at", .int r.at_)]) := hra11
                repeat' walk_at "v"
                refine ⟨fun p hp => .tail _ hp, ?_⟩
                show Inv ((R.f, .inst (fileC R) R.d) :: (R.d, fileO s.dk R) :: (du, .list []) :: E) { s with k := s.k + 2, opA := x, many := s.many + 1, disk := diskOpen s (plain told) acc, opened := s.opened.filter s.isOp ++ [R.f], names := namesO s (plain told), octets := octO s (plain told) acc, rows := rowsAt (rewindIf (numO s (plain told))) (i + 1) s.rows } _
                rw [e2, show rewindIf (numO s (plain told)) r = { r.set 0 with at_ := 0 } by unfold rewindIf; rw [if_pos (by rw [hz', hw', hop]; rfl)]; rfl]
                exact I12
        · rw [List.length_map, rowsAt_len] at J
          exact ⟨rfl, hl, J⟩
  rintro l σ9 ⟨hl, I9⟩
  refine WS_weak (loc' := (S "number", MV.int (numO s (plain told))) :: (S "file", .ref R.f) :: [(S "is_there", .bool (getK s.names (plain told)).isSome), (S "named", .bytes (plain told)), (S "due", .ref du), (S "told", .bytes told), (S "way", .bytes acc), (S "deck", .ref s.deck), (S "own", .ref s.own), (S "table", .ref s.T)]) ?_ hl
  obtain ⟨hdeck9, hcA9, hown9, hnm9, hocA9, hrwA9, hT9, htd9, hdk9, hopA9⟩ := I9.all
  refine S_seq ?_
  repeat' walk_at "v"
  refine i_list (xs := (octO s (plain told) acc).map .bytes) (v := .bytes o) hocA9 (by omega) (by omega) (by
    rw [List.getElem?_map, ho, List.getD_eq_getElem?_getD]
    show ((octO s (plain told) acc)[numO s (plain told)]?).map MV.bytes = _
    rw [List.getElem?_eq_getElem hnum]
    rfl) ?_
  repeat' walk_at "v"
  refine K_next ?_
  refine S_seq ?_
  refine S_name C' ?_ (by kernel_rfl) (by kernel_rfl)
  refine E_sdict C' (by kernel_rfl) (by kernel_rfl) nofun (leB (by kernel_rfl)) fun d hd => ?_
  refine D_cons ?_
  repeat' walk_at "v"
  refine D_cons ?_
  repeat' walk_at "v"
  refine D_cons ?_
  repeat' walk_at "v"
  refine D_cons ?_
  repeat' walk_at "v"
  refine D_cons ?_
  repeat' walk_at "v"
  refine D_cons ?_
  refine E_str ?_
  refine WE.mono (Q := fun v σ' => v = .int R.fat ∧ σ' = upd σ9 d (.sd [])) ?_ ?_
  · repeat' walk_at "v"
    refine s_bytes (by omega) ?_
    repeat' walk_at "v"
    rw [w_a acc ha6]
    cases hg : (acc == [97] || acc == [97, 43]) <;> rw [hg] at r5
    · refine ite_f ?_
      repeat' walk_at "v"
      refine ⟨?_, rfl⟩
      rw [r5]; rfl
    · refine ite_t ?_
      repeat' walk_at "v"
      refine c_len_bytes (by omega) ?_
      refine ⟨?_, rfl⟩
      rw [r5]; rfl
  rintro _ _ ⟨rfl, rfl⟩
  refine D_nil ?_
  refine ⟨[(S "file", .ref R.f), (S "way", .bytes acc), (S "of", .int (numO s (plain told))), (S "was", .bytes o), (S "is_open", .bool true), (S "at", .int R.fat)], rfl, by show ([S "file", S "way", S "of", S "was", S "is_open", S "at"] : List Str).Nodup; decide +kernel, upd_self _ _ _, ?_⟩
  refine ⟨_, by walk_at "wipe", ?_⟩
  refine K_next ?_
  rw [upd_upd]
  have hrw : upd σ9 d (.sd [(S "file", .ref R.f), (S "way", .bytes acc), (S "of", .int (numO s (plain told))), (S "was", .bytes o), (S "is_open", .bool true), (S "at", .int R.fat)]) s.rwA = some (.list ((rowsO s (plain told) acc).map fun r => .ref r.a)) := at_ne hrwA9 (ne_fresh hrwA9 hd)
  have hRl : (rowsO s (plain told) acc).length = s.rows.length := by have := congrArg List.length (rowsO_f s (plain told) acc); simpa using this
  refine S_seq ?_
  repeat' walk_at "v"
  refine ⟨_, _, by kernel_rfl, m_append hrw, ?_⟩
  repeat' walk_at "v"
  refine c_append hrw (by rw [List.length_map, hRl]; omega) ?_
  have I10 := I9.addrow (R := { R with a := d, of := numO s (plain told), op := true, at_ := R.fat }) hd
  subst r1
  subst r4
  refine K_next ?_
  refine S_last ?_
  repeat' walk_at "v"
  rw [show ((rowsO s (plain told) R.way).map fun r => MV.ref r.a) ++ [.ref d] = (rowsO s (plain told) R.way ++ [{ R with a := d, of := numO s (plain told), op := true, at_ := R.fat }]).map fun (r : Row) => MV.ref r.a by rw [List.map_append]; rfl]
  refine h _ _ ?_ (I10.pop)
  have hnd := I10.fs_nodup
  have hR : R.f ∉ s.rows.map (·.f) := fun hm => by
    have e : ((rowsO s (plain told) R.way ++ [{ R with a := d, of := numO s (plain told), op := true, at_ := R.fat }]).map fun (r : Row) => r.f).Nodup := hnd
    rw [List.map_append, rowsO_f] at e
    exact (List.nodup_append.mp e).2.2 R.f hm R.f (.head _) rfl
  refine ⟨rfl, rfl, rfl, Nat.le_refl _, ?_⟩
  exact G.opened ht nd (R := { R with a := d, of := numO s (plain told), op := true, at_ := R.fat }) (k := s.k + 2) (x := x) (m := s.many + 1) hR rfl ha6 r2 r3 rfl rfl ho rfl (by show R.fat ≤ R.was.length; rw [r5]; split; exact Nat.le_refl _; exact Nat.zero_le _)
end
section
variable {c : Cx} {loc : Loc} {σ : MHeap} {α β : Type} {X : MV → MHeap → Prop} {Q : MV → MHeap → Prop} {h h' : Heap} {a d : Addr} {Kt : MF → Loc → MHeap → Prop} {B : Bool → MHeap → Prop}
variable {E : Cells} {s : St} {t : Nat}
theorem s_listI (C : c.Ok) {xs : List MV} {b : Nat} (T : ∀ h, Sim c loc σ h → ∃ vs : Array Value, h.IsList a vs ∧ vs.toList.map er = xs) (hz : xs.length ≤ 1000000) (h : Made σ (.list (xs.take b)) Q) : SliceR c loc σ (.ref a) none (some b) Q X := fun u vl vu hu hl hh s hs sl hsl => by
  obtain ⟨vs, g, e⟩ := T _ hs
  rw [er_ref hu]
  cases hl; cases hh with | int _ t =>
  have hsz := map_size e
  refine ⟨⟨_, _, g.typeIs, slot_list_getitem.lookup⟩, wpAny_getItem_list_slice g hsl .none (.int b t) .none (fun e => nomatch e) (.heap (hs.push (o := .list (xs.take b)) C rfl ⟨_, _, rfl, ?_⟩) (h _ (hs.fresh (Nat.le_refl _)))) (lineUp (by omega))⟩
  rw [slicePick_upto', map_take e b]
theorem Fits.freshAt {A B : Cells} (F : Fits (A ++ B) σ) {x : Addr} {o : MObj} (h : σ x = none) : Fits (A ++ (x, o) :: B) (upd σ x o) := Fits.perm (Fits.fresh F h) List.perm_middle.symm
theorem Fits.consAt {A B : Cells} {σ' : MHeap} (F : Fits (A ++ B) σ') {x : Addr} {o : MObj} (hx : σ' x = some o) (hn : ∀ p ∈ A ++ B, p.1 ≠ x) : Fits (A ++ (x, o) :: B) σ' := by
  refine Fits.perm (L := (x, o) :: (A ++ B)) ⟨?_, fun p hp => ?_⟩ List.perm_middle.symm
  · rw [List.map_cons, List.nodup_cons]
    exact ⟨fun hm => by obtain ⟨q, hq, e⟩ := List.mem_map.mp hm; exact hn q hq e, F.nd⟩
  · rcases List.mem_cons.mp hp with rfl | hp
    · exact hx
    · exact F.at_ p hp
theorem Fits.no {L : Cells} (F : Fits L σ) {x : Addr} (h : σ x = none) : ∀ p ∈ L, p.1 ≠ x := fun p hp e => by
  have := F.at_ p hp
  rw [e, h] at this; cases this
theorem no_mid {A B : Cells} {x : Addr × MObj} {y : Addr} (h : ∀ p ∈ A ++ B, p.1 ≠ y) (hx : x.1 ≠ y) : ∀ p ∈ A ++ x :: B, p.1 ≠ y := fun p hp => by
  rcases List.mem_cons.mp (List.perm_middle.mem_iff.mp hp) with rfl | hp
  · exact hx
  · exact h p hp
noncomputable def st0 (deck cA own nm oc rws T td dk opA si so se : Addr) (zs : List Int) (m : Nat) : St := { deck := deck, cA := cA, own := own, nm := nm, ocA := oc, rwA := rws, T := T, td := td, dk := dk, opA := opA, si := si, so := so, se := se, cs := zs, k := 1, names := [([97], 0), ([98], 1)], octets := [[111, 110, 101], [116, 119, 111, 50]], rows := [], most := m, many := 3, opened := [], disk := [([97], [111, 110, 101]), ([98], [116, 119, 111, 50])] }
theorem good0 {deck cA own nm oc rws T td dk opA si so se : Addr} {zs : List Int} (hz : zs.length ≤ 63) {m : Nat} : Good 0 (st0 deck cA own nm oc rws T td dk opA si so se zs m) :=
  ⟨Nat.zero_le _, hz, rfl, (by decide : (([([97], 0), ([98], 1)] : List (List UInt8 × Nat)).map (·.1)).Nodup), (by decide : (([([97], 0), ([98], 1)] : List (List UInt8 × Nat)).map (·.2)).Nodup), (by decide : ∀ p ∈ ([([97], 0), ([98], 1)] : List (List UInt8 × Nat)), p.2 < 2), (by decide : ∀ o ∈ ([[111, 110, 101], [116, 119, 111, 50]] : List (List UInt8)), o.length ≤ 4), Nat.le_refl 2, Nat.le_refl 2, fun r hr => absurd hr List.not_mem_nil, Nat.le_refl _, List.nodup_nil, fun x hx => absurd hx List.not_mem_nil, fun r hr => absurd hr List.not_mem_nil, Nat.le_refl _⟩
noncomputable abbrev cxL (w : World) (H : Heap) (n' : Nat) (A : Around) (frames : List Env) (fr : List (Addr × (Str → Option Value))) (fix : List (Addr × Obj)) (L : Addr) : Cx := ⟨w, H, n', A, frames, fr, fix, envOf (S "law") (fscope (fdef 30)) L 511 (.ref 510)⟩
noncomputable def lawHead : List Stmt := (fbody (fdef 30)).take 3
noncomputable def lawK (l deck cA : Addr) (zs : List Int) (l' : Loc) (σ' : MHeap) : Prop := ∃ (own nm oc rws : Addr) (m : Nat), l' = [(S "own", .ref own), (S "deck", .ref deck), (S "script", .ref l)] ∧ Fits [(deck, deckO cA 1), (cA, .list (zs.map .int)), (own, .sd [(S "names", .ref nm), (S "octets", .ref oc), (S "rows", .ref rws), (S "most", .int m)]), (nm, .bd [([97], .int 0), ([98], .int 1)]), (oc, .list [.bytes [111, 110, 101], .bytes [116, 119, 111, 50]]), (rws, .list [])] σ'
theorem law_walk {w : World} {H : Heap} {n' : Nat} {A : Around} {frames : List Env} {fr : List (Addr × (Str → Option Value))} {fix : List (Addr × Obj)} {L : Addr} (C' : (cxL w H n' A frames fr fix L).Ok) (F' : (cxL w H n' A frames fr fix L).Fun) (hH' : A.handled = none) (hn : 20 ≤ n') {l : Addr} {zs : List Int} (hz : zs.length ≤ 63)
    (hT : ∀ loc σ h, Sim (cxL w H n' A frames fr fix L) loc σ h → ∃ vs : Array Value, h.IsList l vs ∧ vs.toList.map er = zs.map .int) (hQ : ∀ σ', Q (.bool true) σ') :
    WS (cxL w H n' A frames fr fix L) [(S "script", .ref l)] (fun _ => none) (fbody (fdef 30)) (fun fl _ σ' => Q (retOf fl) σ') X := by
  have F0 : Fits [] (fun _ => none) := ⟨List.nodup_nil, fun _ hp => absurd hp List.not_mem_nil⟩
  refine S_join (K1 := fun l' σ' => ∃ deck cA, l' = [(S "deck", .ref deck), (S "script", .ref l)] ∧ Fits [(deck, deckO cA 0), (cA, .list (zs.map .int))] σ') ?_ ?_
  · with_reducible refine S_name C' ?_ (by kernel_rfl) (by kernel_rfl)
    with_reducible refine E_sdict C' (by kernel_rfl) (by kernel_rfl) (List.cons_ne_nil _ _) (leB (by kernel_rfl)) fun d hd => ?_
    have F1 : Fits [(d, .sd [])] (upd (fun _ => none) d (.sd [])) := Fits.fresh F0 hd
    with_reducible refine D_cons ?_
    with_reducible refine E_str ?_
    with_reducible refine E_comp C' hH' (cl := []) (by kernel_rfl) (by kernel_rfl) (by kernel_rfl) (by kernel_rfl) (by kernel_rfl) (fun v => by kernel_rfl) ?_
    repeat' walk_at "v"
    refine s_listI (b := 63) (xs := zs.map .int) C' (hT _ _) (by rw [List.length_map]; omega) ?_
    intro r1 hr1
    have F2 : Fits [(d, .sd [])] (upd (upd (fun _ => none) d (.sd [])) r1 (.list ((zs.map .int).take 63))) := Fits.garbage F1 hr1
    refine ⟨_, _, _, fun i ys σ' => σ' = upd (upd (fun _ => none) d (.sd [])) r1 (.list ((zs.map .int).take 63)) ∧ ys = (zs.take i).map .int, It_list (xs := (zs.map .int).take 63) (by rw [List.length_take, List.length_map]; omega), ⟨rfl, rfl⟩, fun i ys σ' j => ?_, fun i ys σ' j => ?_, fun i y ys σ' hy j fr' fix' D hfx Cc => ?_, fun ys σ' j => ?_⟩
    · obtain ⟨rfl, rfl⟩ := j
      exact upd_self _ _ _
    · obtain ⟨rfl, rfl⟩ := j
      rw [List.length_map, List.length_take]
      omega
    · obtain ⟨rfl, rfl⟩ := j
      rw [List.take_of_length_le (by rw [List.length_map]; omega)] at hy
      obtain ⟨z, hz', rfl⟩ := map_at2 hy
      refine I_nil ?_
      refine ite_t ?_
      repeat' walk_at "v"
      refine c_int ?_
      exact ⟨rfl, by rw [take_at hz', List.map_append]; rfl⟩
    · obtain ⟨rfl, rfl⟩ := j
      intro r hr
      rw [List.take_of_length_le (l := zs) (by rw [List.length_take, List.length_map]; omega)]
      have F3 : Fits ([(d, .sd [])] ++ [(r, .list (zs.map .int))]) _ := Fits.freshAt (A := [(d, .sd [])]) (B := []) F2 hr
      with_reducible refine D_cons ?_
      repeat' walk_at "v"
      with_reducible refine D_nil ?_
      refine ⟨[(S "cells", .ref r), (S "at", .int 0)], rfl, by show ([S "cells", S "at"] : List Str).Nodup; decide +kernel, F3.get (.head _), ?_⟩
      refine ⟨_, by walk_at "wipe", rfl, d, r, rfl, ?_⟩
      exact Fits.put (A := []) F3
  rintro _ σ1 ⟨deck, cA, rfl, F1⟩
  with_reducible refine S_join (K1 := lawK l deck cA zs) ?_ ?_
  · with_reducible refine S_name C' ?_ (by kernel_rfl) (by kernel_rfl)
    with_reducible refine E_sdict C' (by kernel_rfl) (by kernel_rfl) (List.cons_ne_nil _ _) (leB (by kernel_rfl)) fun own hown => ?_
    have F2 : Fits [(deck, deckO cA 0), (cA, .list (zs.map .int)), (own, .sd [])] _ := Fits.freshAt (A := [_, _]) (B := []) F1 hown
    with_reducible refine D_cons ?_
    with_reducible refine E_str ?_
    with_reducible refine E_bdict C' (by kernel_rfl) (by kernel_rfl) (List.cons_ne_nil _ _) (leB (by kernel_rfl)) fun nm hnm => ?_
    have F3 : Fits [(deck, deckO cA 0), (cA, .list (zs.map .int)), (own, .sd []), (nm, .bd [])] _ := Fits.freshAt (A := [_, _, _]) (B := []) F2 hnm
    with_reducible refine D_cons ?_
    repeat' walk_at "v"
    with_reducible refine D_cons ?_
    repeat' walk_at "v"
    with_reducible refine D_nil ?_
    refine ⟨[([97], .int 0), ([98], .int 1)], rfl, by show ([[97], [98]] : List (List UInt8)).Nodup; decide, upd_self _ _ _, ?_⟩
    have F4 : Fits [(deck, deckO cA 0), (cA, .list (zs.map .int)), (own, .sd []), (nm, .bd [([97], .int 0), ([98], .int 1)])] _ := Fits.put (A := [_, _, _]) (B := []) F3
    with_reducible refine D_cons ?_
    with_reducible refine E_str ?_
    with_reducible refine E_list C' ?_
    repeat' walk_at "v"
    refine ⟨leB (by kernel_rfl), fun oc hoc => ?_⟩
    have F5 : Fits [(deck, deckO cA 0), (cA, .list (zs.map .int)), (own, .sd []), (nm, .bd [([97], .int 0), ([98], .int 1)]), (oc, .list [.bytes [111, 110, 101], .bytes [116, 119, 111, 50]])] _ := Fits.freshAt (A := [_, _, _, _]) (B := []) F4 hoc
    with_reducible refine D_cons ?_
    with_reducible refine E_str ?_
    with_reducible refine E_list C' ?_
    repeat' walk_at "v"
    refine ⟨leB (by kernel_rfl), fun rws hrws => ?_⟩
    have F6 : Fits [(deck, deckO cA 0), (cA, .list (zs.map .int)), (own, .sd []), (nm, .bd [([97], .int 0), ([98], .int 1)]), (oc, .list [.bytes [111, 110, 101], .bytes [116, 119, 111, 50]]), (rws, .list [])] _ := Fits.freshAt (A := [_, _, _, _, _]) (B := []) F5 hrws
    with_reducible refine D_cons ?_
    repeat' walk_at "v"
    refine draw_ok C' (n := n' - 1) (by show n' = n' - 1 + 1; omega) (F6.get (.head _)) (F6.get (.tail _ (.head _))) (ne_of (F6.get (.tail _ (.head _))) (F6.get (.head _)) nofun) (by decide) (by omega) (by decide) fun i h0 h1 => ?_
    have F7 : Fits [(deck, deckO cA 1), (cA, .list (zs.map .int)), (own, .sd []), (nm, .bd [([97], .int 0), ([98], .int 1)]), (oc, .list [.bytes [111, 110, 101], .bytes [116, 119, 111, 50]]), (rws, .list [])] _ := Fits.put (A := []) (o' := deckO cA 1) F6
    obtain ⟨m, rfl⟩ := Int.eq_ofNat_of_zero_le h0
    with_reducible refine o_add ?_
    rw [show (2 : Int) + (m : Int) = ((m + 2 : Nat) : Int) by omega]
    with_reducible refine D_nil ?_
    refine ⟨[(S "names", .ref nm), (S "octets", .ref oc), (S "rows", .ref rws), (S "most", .int (m + 2 : Nat))], rfl, by show ([S "names", S "octets", S "rows", S "most"] : List Str).Nodup; decide +kernel, F7.get (.tail _ (.tail _ (.head _))), ?_⟩
    refine ⟨_, by walk_at "wipe", rfl, own, nm, oc, rws, m + 2, rfl, ?_⟩
    exact Fits.put (A := [_, _]) F7
  rintro _ σ2 ⟨own, nm, oc, rws, m, rfl, F2⟩
  with_reducible refine S_join (K1 := fun l' σ' => ∃ s0 : St, l' = [(S "table", .ref s0.T), (S "own", .ref s0.own), (S "deck", .ref s0.deck), (S "script", .ref l)] ∧ s0.k = 1 ∧ Good 0 s0 ∧ Inv [] s0 σ') ?_ ?_
  · with_reducible refine S_name C' ?_ (by kernel_rfl) (by kernel_rfl)
    repeat' walk_at "v"
    with_reducible refine E_bdict C' (by kernel_rfl) (by kernel_rfl) (List.cons_ne_nil _ _) (leB (by kernel_rfl)) fun dk hdk => ?_
    have F3 : Fits [(deck, deckO cA 1), (cA, .list (zs.map .int)), (own, .sd [(S "names", .ref nm), (S "octets", .ref oc), (S "rows", .ref rws), (S "most", .int m)]), (nm, .bd [([97], .int 0), ([98], .int 1)]), (oc, .list [.bytes [111, 110, 101], .bytes [116, 119, 111, 50]]), (rws, .list []), (dk, .bd [])] _ := Fits.freshAt (A := [_, _, _, _, _, _]) (B := []) F2 hdk
    with_reducible refine D_cons ?_
    repeat' walk_at "v"
    with_reducible refine D_cons ?_
    repeat' walk_at "v"
    with_reducible refine D_nil ?_
    refine ⟨[([97], .bytes [111, 110, 101]), ([98], .bytes [116, 119, 111, 50])], rfl, by show ([[97], [98]] : List (List UInt8)).Nodup; decide, upd_self _ _ _, ?_⟩
    have F4 : Fits [(deck, deckO cA 1), (cA, .list (zs.map .int)), (own, .sd [(S "names", .ref nm), (S "octets", .ref oc), (S "rows", .ref rws), (S "most", .int m)]), (nm, .bd [([97], .int 0), ([98], .int 1)]), (oc, .list [.bytes [111, 110, 101], .bytes [116, 119, 111, 50]]), (rws, .list []), (dk, .bd [([97], .bytes [111, 110, 101]), ([98], .bytes [116, 119, 111, 50])])] _ := Fits.put (A := [_, _, _, _, _, _]) (B := []) F3
    have hown4 := F4.get (.tail _ (.tail _ (.head _)))
    repeat' walk_at "v"
    refine table_ok C' hH' (by show 4 ≤ n'; omega) fun T td opA si so se σ' hT hTd hne tab => ?_
    refine ⟨_, by walk_at "wipe", ?_⟩
    refine ⟨rfl, st0 deck cA own nm oc rws T td dk opA si so se zs m, rfl, rfl, good0 hz, ?_⟩
    have F5 := F4.weak tab.up
    have F6 := Fits.consAt (A := [_, _, _, _, _, _]) (B := [_]) F5 tab.T (F4.no hT)
    have F7 := Fits.consAt (A := [_, _, _, _, _, _, _]) (B := [_]) F6 tab.td (no_mid (A := [_, _, _, _, _, _]) (B := [_]) (F4.no hTd) hne.symm)
    have F8 := Fits.consAt (A := [_, _, _, _, _, _, _, _, _]) (B := []) F7 tab.r (no_mid (A := [_, _, _, _, _, _, _]) (B := [_]) (no_mid (A := [_, _, _, _, _, _]) (B := [_]) (F4.no tab.hr) tab.rT.symm) tab.rd.symm)
    exact F8
  rintro _ σ3 ⟨s0, rfl, hk0, G0, I0⟩
  have hcs0 := G0.cs
  have hl0 : ∀ p ∈ ([(S "table", .ref s0.T), (S "own", .ref s0.own), (S "deck", .ref s0.deck)] : Loc), p ∈ ([(S "table", .ref s0.T), (S "own", .ref s0.own), (S "deck", .ref s0.deck), (S "script", .ref l)] : Loc) := fun p hp => List.mem_append_left [(S "script", MV.ref l)] hp
  with_reducible refine S_seq ?_
  with_reducible refine S_forF C' hH' [(S "table", .ref s0.T), (S "own", .ref s0.own), (S "deck", .ref s0.deck)] hl0 (noName (by kernel_rfl)) ?_ (by kernel_rfl) (fun v => by kernel_rfl)
  repeat' walk_at "v"
  refine draw_inv C' (by show 1 ≤ n'; omega) I0 (by omega) (by omega) (by decide) fun i σ4 h0 h1 I1 => ?_
  obtain ⟨m, rfl⟩ := Int.eq_ofNat_of_zero_le h0
  refine o_add ?_
  rw [show (2 : Int) + (m : Int) = ((m + 2 : Nat) : Int) by omega]
  repeat' walk_at "v"
  refine c_range C' fun rg ob hrg hob => ?_
  have hm : m ≤ 13 := by omega
  refine ⟨_, _, _, fun i σ' => ∃ s' : St, s'.deck = s0.deck ∧ s'.own = s0.own ∧ s'.T = s0.T ∧ s'.k ≤ 10 + 10 * i ∧ Good i s' ∧ Inv [(rg, .raw ob)] s' σ', It_range hob (by omega), ⟨{ s0 with k := s0.k + 1 }, rfl, rfl, rfl, by show s0.k + 1 ≤ _; omega, G0.setk _, I1.push hrg⟩, fun i σ' ⟨_, _, _, _, _, _, J⟩ => J.frame (.head _), fun i y σ' hy ⟨s', ed, eo, eT, hk, G, J⟩ It ob' Cp => ?_, fun σ' ⟨_, _, _, _, _, _, J⟩ l' hl => ?_⟩
  rotate_left
  · with_reducible refine K_next ?_
    with_reducible refine S_last ?_
    repeat' walk_at "v"
    exact hQ _
  have hi : i < m + 2 := by
    have := (List.getElem?_eq_some_iff.mp hy).1
    simpa using this
  have ht : i + 1 ≤ 15 := by omega
  have hn6 : 6 ≤ n' := by omega
  have hcs := G.cs
  have hrl : s'.rows.length ≤ 15 := by have := G.rl; omega
  rw [← ed, ← eo, ← eT]
  with_reducible refine S_join (K1 := fun l' σ'' => ∃ (v : Nat) (k : Nat), v < 8 ∧ k ≤ s'.k + 1 ∧ (s'.rows = [] → v = 0) ∧ l' = [(S "way", .int v), (S "turn", y), (S "table", .ref s'.T), (S "own", .ref s'.own), (S "deck", .ref s'.deck)] ∧ Inv [(rg, .raw ob)] { s' with k := k } σ'') ?_ ?_
  · obtain ⟨hdeck, hcA, hown, hnm, hocA, hrwA, hTT, htd, hdk, hopA⟩ := J.all
    with_reducible refine S_name Cp ?_ (by kernel_rfl) (by kernel_rfl)
    repeat' walk_at "v"
    with_reducible refine E_list Cp ?_
    repeat' walk_at "v"
    refine ⟨leB rfl, fun z hz' => ?_⟩
    have J2 := J.garbage (o := .list []) hz'
    refine o_ne_nil Cp (at_ne hrwA (ne_fresh hrwA hz')) (upd_self _ _ _) ?_
    refine t_bool ?_
    cases hrw : (s'.rows.map fun r => MV.ref r.a).isEmpty
    case true =>
      refine ite_nf ?_
      repeat' walk_at "v"
      exact ⟨rfl, 0, s'.k, by decide, Nat.le_succ _, fun _ => rfl, rfl, J2⟩
    case false =>
      refine ite_nt ?_
      repeat' walk_at "v"
      refine draw_inv Cp (by show 1 ≤ n'; omega) J2 (by omega) (by omega) (by decide) fun v σ'' h0 h1 J3 => ?_
      obtain ⟨v, rfl⟩ := Int.eq_ofNat_of_zero_le h0
      refine ⟨_, by walk_at "wipe", rfl, v, s'.k + 1, by omega, Nat.le_refl _, (fun e => by rw [e] at hrw; cases hrw), rfl, J3⟩
  rintro _ σ5 ⟨v, k1, hv, hk1, hv0, rfl, J5⟩
  with_reducible refine S_join (K1 := fun l' σ'' => ∃ (rv : MV) (k : Nat), k ≤ s'.k + 2 ∧ (3 < v → ∃ r ∈ s'.rows, rv = .ref r.a) ∧ l' = [(S "row", rv), (S "way", .int v), (S "turn", y), (S "table", .ref s'.T), (S "own", .ref s'.own), (S "deck", .ref s'.deck)] ∧ Inv [(rg, .raw ob)] { s' with k := k } σ'') ?_ ?_
  · obtain ⟨hdeck, hcA, hown, hnm, hocA, hrwA, hTT, htd, hdk, hopA⟩ := J5.all
    with_reducible refine S_name Cp ?_ (by kernel_rfl) (by kernel_rfl)
    repeat' walk_at "v"
    refine ite_of (fun hz' => ?_) (fun hz' => ?_)
    · have hv3 : 3 < v := by
        have : (3 : Int) < (v : Int) := by simpa using hz'
        omega
      have hne : s'.rows ≠ [] := fun e => by have := hv0 e; omega
      have hpos : 0 < s'.rows.length := List.length_pos_iff.mpr hne
      repeat' walk_at "v"
      refine c_len_list hrwA (by rw [List.length_map]; show s'.rows.length ≤ 1000000; omega) ?_
      rw [List.length_map]
      repeat' walk_at "v"
      refine draw_inv (s := { s' with k := k1 }) Cp (by show 1 ≤ n'; omega) J5 (by show k1 ≤ 1000; omega) (by show s'.cs.length ≤ 1000; omega) (by show (0 : Int) < (s'.rows.length : Int); omega) fun j σ'' h0 h1 J6 => ?_
      have hj : j.toNat < s'.rows.length := by
        have h1' : j < (s'.rows.length : Int) := h1
        omega
      refine i_list (xs := s'.rows.map fun r => .ref r.a) (v := .ref s'.rows[j.toNat].a) J6.all.2.2.2.2.2.1 h0 (by omega) (by rw [List.getElem?_map, List.getElem?_eq_getElem hj]; rfl) ?_
      exact ⟨_, by walk_at "wipe", rfl, _, k1 + 1, by omega, fun _ => ⟨_, List.getElem_mem hj, rfl⟩, rfl, J6⟩
    · repeat' walk_at "v"
      exact ⟨rfl, .none, k1, by omega, fun h3 => absurd (by simpa using hz' : ¬ (3 : Int) < (v : Int)) (by omega), rfl, J5⟩
  rintro _ σ6 ⟨rv, k2, hk2, hrv, rfl, J6⟩
  with_reducible refine S_join (K1 := fun l' σ'' => ∃ s'' : St, l' = [(S "is_right", .bool true), (S "row", rv), (S "way", .int v), (S "turn", y), (S "table", .ref s'.T), (S "own", .ref s'.own), (S "deck", .ref s'.deck)] ∧ Nxt i { s' with k := k2 } s'' ∧ Inv [(rg, .raw ob)] s'' σ'') ?_ ?_
  · obtain ⟨hdeck, hcA, hown, hnm, hocA, hrwA, hTT, htd, hdk, hopA⟩ := J6.all
    have G6 : Good i { s' with k := k2 } := G.setk k2
    have hk6 : ({ s' with k := k2 } : St).k ≤ 500 := by show k2 ≤ 500; omega
    repeat' walk_at "v"
    refine ite_of (fun hz1 => ?_) (fun hz1 => ?_)
    · with_reducible refine S_last ?_
      repeat' walk_at "v"
      refine opened_ok (s := { s' with k := k2 }) Cp hH' hn6 J6 G6 ht hk6 fun s'' σ'' N J8 => ?_
      exact ⟨_, by walk_at "wipe", rfl, s'', rfl, N, J8⟩
    have h2v : 2 ≤ v := by
      have : ¬ (v : Int) < (2 : Int) := by simpa using hz1
      omega
    with_reducible refine S_last ?_
    repeat' walk_at "v"
    refine ite_of (fun hz2 => ?_) (fun hz2 => ?_)
    · with_reducible refine S_last ?_
      repeat' walk_at "v"
      refine ite_of (fun hz3 => ?_) (fun hz3 => ?_)
      · repeat' walk_at "v"
        refine moved_ok (s := { s' with k := k2 }) Cp hH' hn6 J6 G6 ht hk6 fun s'' σ'' N J8 => ?_
        exact ⟨_, by walk_at "wipe", rfl, s'', rfl, N, J8⟩
      · repeat' walk_at "v"
        refine gone_ok (s := { s' with k := k2 }) Cp hH' hn6 J6 G6 ht hk6 fun s'' σ'' N J8 => ?_
        exact ⟨_, by walk_at "wipe", rfl, s'', rfl, N, J8⟩
    have h4v : 4 ≤ v := by
      have : ¬ (v : Int) < (4 : Int) := by simpa using hz2
      omega
    obtain ⟨r, hr, rfl⟩ := hrv (by omega)
    with_reducible refine S_last ?_
    repeat' walk_at "v"
    refine ite_of (fun hz3 => ?_) (fun hz3 => ?_)
    · have hra := J6.rowAt (r := r) hr
      obtain ⟨R1, R2, hsp⟩ := split_mem hr
      with_reducible refine S_last ?_
      with_reducible refine S_tuple hH' ?_ (by kernel_rfl) (by kernel_rfl) (by kernel_rfl)
      repeat' walk_at "v"
      refine ⟨_, _, by kernel_rfl, meth_f Cp J6 (x := r.f) (f := 153) (List.mem_map_of_mem (f := (·.f)) hr) (by kernel_rfl) (by kernel_rfl) no_close, ?_⟩
      refine close_row Cp hH' (by show 1 ≤ n'; omega) J6 hsp fun σ'' J7 => ?_
      have hra7 : σ'' r.a = some (rowO r) := J7.rowAt (r := r.close) (by simp)
      have J8 := J7.setrowA (R1 := R1) (R2 := R2) (r := r.close) (r' := { r.close with op := false }) rfl rfl rfl rfl rfl rfl
      repeat' walk_at "v"
      refine ⟨leB (by kernel_rfl), by kernel_rfl, A_cons fun u hu => A_sub hu ?_⟩
      repeat' walk_at "v"
      refine A_cons fun u hu => A_name Cp hu (by walk_at "wipe") ?_ (by kernel_rfl)
      refine A_nil ?_
      refine ⟨rfl, _, rfl, ?_, J8⟩
      have RO := G.rows r hr
      exact ⟨rfl, rfl, rfl, Nat.le_add_right _ _, (G6.row hsp (r' := { r.close with op := false }) rfl nofun (RO.closed rfl rfl rfl rfl rfl)).up ht _⟩
    · have h7 : v ≠ 7 := fun e => by
        have : ¬ (v : Int) = (7 : Int) := by simpa using hz3
        omega
      rcases (by omega : v = 4 ∨ v = 5 ∨ v = 6) with rfl | rfl | rfl
      · with_reducible refine S_last ?_
        repeat' walk_at "v"
        · with_reducible refine E_tuple Cp ?_
          repeat' walk_at "v"
          refine ⟨leB (by kernel_rfl), fun z hz' => ?_⟩
          have J7 := J6.garbage (o := .tup [.ref 466, .ref 473, .ref 480]) hz'
          repeat' walk_at "v"
          refine i_tup (xs := [.ref 466, .ref 473, .ref 480]) (v := .ref 466) (Has.of (upd_self _ _ _)) (by decide) (by decide) rfl ?_
          repeat' walk_at "v"
          refine written_ok (s := { s' with k := k2 }) Cp hH' hn6 J7 G6 ht hk6 hr fun s'' σ'' N J8 => ?_
          exact ⟨_, by walk_at "wipe", rfl, s'', rfl, N, J8⟩
      · with_reducible refine S_last ?_
        repeat' walk_at "v"
        · with_reducible refine E_tuple Cp ?_
          repeat' walk_at "v"
          refine ⟨leB (by kernel_rfl), fun z hz' => ?_⟩
          have J7 := J6.garbage (o := .tup [.ref 466, .ref 473, .ref 480]) hz'
          repeat' walk_at "v"
          refine i_tup (xs := [.ref 466, .ref 473, .ref 480]) (v := .ref 473) (Has.of (upd_self _ _ _)) (by decide) (by decide) rfl ?_
          repeat' walk_at "v"
          refine read_ok (s := { s' with k := k2 }) Cp hH' hn6 J7 G6 ht hk6 hr fun s'' σ'' N J8 => ?_
          exact ⟨_, by walk_at "wipe", rfl, s'', rfl, N, J8⟩
      · with_reducible refine S_last ?_
        repeat' walk_at "v"
        · with_reducible refine E_tuple Cp ?_
          repeat' walk_at "v"
          refine ⟨leB (by kernel_rfl), fun z hz' => ?_⟩
          have J7 := J6.garbage (o := .tup [.ref 466, .ref 473, .ref 480]) hz'
          repeat' walk_at "v"
          refine i_tup (xs := [.ref 466, .ref 473, .ref 480]) (v := .ref 480) (Has.of (upd_self _ _ _)) (by decide) (by decide) rfl ?_
          repeat' walk_at "v"
          refine placed_ok (s := { s' with k := k2 }) Cp hH' hn6 J7 G6 ht hk6 hr fun s'' σ'' N J8 => ?_
          exact ⟨_, by walk_at "wipe", rfl, s'', rfl, N, J8⟩
  rintro _ σ7 ⟨s'', rfl, N, J7⟩
  with_reducible refine S_last ?_
  repeat' walk_at "v"
  rw [show s'.own = s''.own from N.own.symm, show s'.T = s''.T from N.T.symm]
  refine right_ok Cp hH' hn6 J7 N.good fun σ8 J8 => ?_
  repeat' walk_at "v"
  with_reducible refine S_nil ?_
  refine ⟨fun p hp => .tail _ (.tail _ (.tail _ (.tail _ hp))), s'', ?_, ?_, ?_, ?_, N.good, J8⟩
  · exact N.deck
  · rfl
  · rfl
  · have := N.k
    have h2 : s''.k ≤ k2 + 2 := this
    omega
end
section
variable {c : Cx} {loc : Loc} {σ : MHeap} {α β : Type} {X : MV → MHeap → Prop} {Q : MV → MHeap → Prop} {h h' : Heap} {a d : Addr} {Kt : MF → Loc → MHeap → Prop} {B : Bool → MHeap → Prop}
theorem fdata_ints {vs : List Value} {ns : List Int} (h : IntsAre vs ns) : vs.map er = ns.map .int := by
  induction h with
  | nil => rfl
  | cons n t _ ih => rw [List.map_cons, List.map_cons, ih]; rfl
theorem glaw (P : Params) : nsIn (K P) mainGlobals "law" = some (some (.ref 511)) := by kernel_rfl
theorem name_law : dLaw.name = S "law" := by kernel_rfl
theorem law_call {w : World} {s : Shared} {mg mb : Str → Option Value} (KX : (K w.params).In s.heap) (hG : s.heap.Ns mainGlobals mg) (hB : s.heap.Ns builtinsNs mb) (hb : ∀ x : Str, x ≠ "__name__" → mb x = bootBuiltins x) (hN : s.heap.NoLimit)
    {l : Addr} {vs : List Value} {zs : List Int} (hl : s.heap.IsList l vs.toArray) (hI : IntsAre vs zs) (hz : zs.length ≤ 63) {R : Result → Shared → Prop}
    (hR : ∀ s', Steps s s' → (∀ b o, s.heap.get? b = some o → s'.heap.get? b = some o) → R (.ok (.ret (.bool true))) s') : codeAny (model pw w) callerA (.call (.ref 511) ⟨[.ref l], []⟩) R s := by
  have F := fn511 w.params
  have hus : [Value.ref l].map er = [MV.ref l] := rfl
  refine codeAny_call_def (fd := fdata (fdef 30) (S "law") .none (.str (S "law_rh0181_01") 724) 510) (body := fbody (fdef 30)) (binds := [S "script"].zip [Value.ref l]) (by decide) (KX _ _ F.ho) rfl hN (codeRec_of KX F.hcd) rfl (F.hb [.ref l] rfl s KX) ?_ ?_ (fun h₀ hns hkeep => ?_) F.hco F.hgen F.hk
  · intro x hx
    have := List.all_eq_true.mp F.hcell x hx
    simpa using this
  · intro x hx
    have := List.all_eq_true.mp F.hloc x.1 (List.of_mem_zip hx).1
    simpa using this
  · have C' : (cxL w s.heap 50 (callerA.deeper (envOf (S "law") (fscope (fdef 30)) s.heap.objs.size 511 (.ref 510))) [envOf (S "law") (fscope (fdef 30)) s.heap.objs.size 511 (.ref 510)] [] [] s.heap.objs.size).Ok := by
      refine ⟨⟨KX, ⟨mg, hG⟩, ⟨mb, hB, hb⟩, hN⟩, rfl, (by show callerA.depth + 1 + 10 * 50 ≤ 900; decide), (by show callerA.units + 3 + 100 * 50 ≤ 9000; decide), F.hk, rfl, rfl, ?_, Nat.le_refl _, fun p hp => absurd hp List.not_mem_nil, fun p hp => absurd hp List.not_mem_nil⟩
      intro e he
      rcases List.mem_singleton.mp he with rfl
      exact ⟨F.hk, _, rfl, .inl rfl⟩
    have F' : (cxL w s.heap 50 (callerA.deeper (envOf (S "law") (fscope (fdef 30)) s.heap.objs.size 511 (.ref 510))) [envOf (S "law") (fscope (fdef 30)) s.heap.objs.size 511 (.ref 510)] [] [] s.heap.objs.size).Fun := ⟨rfl, _, rfl⟩
    have S' : Sim (cxL w s.heap 50 (callerA.deeper (envOf (S "law") (fscope (fdef 30)) s.heap.objs.size 511 (.ref 510))) [envOf (S "law") (fscope (fdef 30)) s.heap.objs.size 511 (.ref 510)] [] [] s.heap.objs.size) [(S "script", .ref l)] (fun _ => none) h₀ :=
      ⟨hkeep, ⟨_, hns, zip_lookup (names := [S "script"]) hus F.hnd⟩, fun p hp => absurd hp List.not_mem_nil, fun p hp => absurd hp List.not_mem_nil, fun b o q => by cases q⟩
    have main := law_walk (Q := fun v _ => v = .bool true) (X := fun _ _ => False) C' F' rfl (by decide) hz (fun loc σ h Sm => ⟨vs.toArray, by obtain ⟨o, ho, hr⟩ := hl; exact ⟨o, Sm.keep _ _ ho, hr⟩, by simpa using fdata_ints hI⟩) (fun _ => rfl)
    have st : Steps s { s with heap := h₀, toks := s.toks + ([S "script"].zip [Value.ref l]).length } := Steps.rfl.to _ _
    refine WL.free main S' fun fl loc' σ' s' st' S'' q => ?_
    have fin := hR s' (st.trans st') S''.keep
    cases fl with
    | ret v =>
      have e : v = .bool true := er_bool (show er v = .bool true from q)
      subst e
      exact fin
    | next => exact absurd (show MV.none = MV.bool true from q) nofun
    | brk => exact absurd (show MV.none = MV.bool true from q) nofun
    | cont => exact absurd (show MV.none = MV.bool true from q) nofun
theorem post_ok (x y : List WData) : rwL.row.claim.post x (.bool true) y = true := by
  show (WShape.has [] (WData.bool true) WShape.bool && WTm.holds [] (WTm.res.eq (WTm.lit (WData.bool true))) { args := x, res := some (WData.bool true), after := y }) = true
  rw [show WShape.has [] (WData.bool true) WShape.bool = true by decide +kernel, Bool.true_and]
  simp only [WTm.holds, WTm.value]
  rw [show same (WData.bool true) (WData.bool true) = true by decide +kernel]
theorem law_holds : rwL.Holds := by
  refine holds_of_walk ?_
  intro w s₀ s₁ mg mb G Y fa o pm cd doc dV kV ho hd hcd hD hmg hg args vals as hpre hlay hrd hwl hlo
  have KX := kIn_of Y
  refine Ground.open G ?_
  intro T B D TE TW
  have hfa : fa = 511 := by
    have e := mg_of KX T.g (glaw _)
    rw [name_law, show mg (S "law") = some (.ref 511) from e] at hmg
    cases hmg
    rfl
  subst hfa
  clear hd ho hcd hD hmg
  wrow_args hpre hlay hrd hwl hlo
  rename_i zs _ _ _ _ _ _ _ l vs _ hL _ _ _ hI _ hlen _
  refine enter_call (law_call KX T.g T.b T.builtins T.nolimit hL hI (by omega) fun s' st keep => ?_)
  obtain ⟨h', k', rfl⟩ := st
  refine GoodW.toG ⟨.inl ⟨_, .bool true, [], rfl, fun cls => ?_, .bool true, ?_, fun _ => ⟨List.nodup_nil, fun a ha => absurd ha List.not_mem_nil⟩⟩, keep, rfl, hg⟩
  · rfl
  · exact post_ok _ _
end
end
end Mine
theorem PySem.Challenge.cw_rh0181_01_holds : PySem.Challenge.rw_rh0181_01.Holds :=
  Mine.law_holds
